import PyProof.Rows.All
import Wide.All
import OpenK.AllK
import Wide.FinOn
import HandS.ForMost
import HandS.TupAny
import HandS.Walk
import HandS.Conv
import HandS.SortInts
import HandS.Defaults
import HandS.Deep
import HandS.OwnEq
import KE.KFmtOwn
import KE.KStateDown
import HandS.More
import HandS.WordsExc
import HandS.Head0
import HandS.Head1
import HandS.Head2
import HandS.HeadEnd
import HandS.HeadHook1
import HandS.HeadHook2
import HandS.IsInst
import KE.KDictKeyed
import KE.KeyNested
import KE.SortData
import KE.DataCmp
import KE.DataFind
import KE.DataEq
import PySem.Challenge.RW_oneleftout_k73_worths
import HandS.Wide
set_option Elab.async false
set_option linter.all false
set_option maxRecDepth 100000
set_option maxHeartbeats 4000000
/-! Zed: a layer over HandS: values as plain data, frozen and owned objects, states as lists of slots. -/
namespace Z
open PySem PySem.Spec PyProof.Rows L2

abbrev Frag := PySem.W.Frag
abbrev St := L2.St

/-! ### growth of the heap: F the frozen part of H -/
structure Gr (F H F' H' : Hp) : Prop where
  hh : Same H H'
  ff : Same F F'
  sub : Same F' H'
  new : ∀ a o, F' a = some o → F a = some o ∨ H a = none

theorem Gr.refl {F H : Hp} (s : Same F H) : Gr F H F H := ⟨Same.refl _, Same.refl _, s, fun _ _ h => .inl h⟩
theorem none_of_same {H H' : Hp} (s : Same H H') {a : Addr} (h : H' a = none) : H a = none := s.free h
theorem Gr.trans {F H F1 H1 F2 H2 : Hp} (a : Gr F H F1 H1) (b : Gr F1 H1 F2 H2) : Gr F H F2 H2 :=
  ⟨a.hh.trans b.hh, a.ff.trans b.ff, b.sub, fun p o h => by
    rcases b.new p o h with h | h
    · exact a.new p o h
    · exact .inr (none_of_same a.hh h)⟩
theorem same_upd {H : Hp} {p : Addr} {o : HO} (h : H p = none) : Same H (upd H p o) := fun b x e => by
  rw [upd_ne (ne_of_none e h)]
  exact e
theorem same_upd2 {F H : Hp} {p : Addr} {o : HO} (s : Same F H) (h : F p = none) : Same F (upd H p o) := fun b x e => by
  rw [upd_ne (ne_of_none e h)]
  exact s _ _ e
theorem same_both {F H : Hp} {p : Addr} {o : HO} (s : Same F H) : Same (upd F p o) (upd H p o) := fun b x e => by
  by_cases hb : b = p
  · subst hb
    rw [upd_same] at e ⊢
    exact e
  · rw [upd_ne hb] at e ⊢
    exact s _ _ e
/-- a new object, frozen at once -/
theorem Gr.put {F H : Hp} {p : Addr} {o : HO} (s : Same F H) (hp : H p = none) : Gr F H (upd F p o) (upd H p o) :=
  ⟨same_upd hp, same_upd (none_of_same s hp), same_both s, fun a u h => by
    by_cases ha : a = p
    · subst ha
      exact .inr hp
    · rw [upd_ne ha] at h
      exact .inl h⟩
/-- a new object that stays open -/
theorem Gr.hold {F H : Hp} {p : Addr} {o : HO} (s : Same F H) (hp : H p = none) : Gr F H F (upd H p o) :=
  ⟨same_upd hp, Same.refl _, same_upd2 s (none_of_same s hp), fun a u h => .inl h⟩
theorem Gr.none {F H F' H' : Hp} (g : Gr F H F' H') {l : Addr} {o : HO} (hF : F l = none) (hH : H l = some o) : F' l = none := by
  cases e : F' l with
  | none => rfl
  | some u =>
    rcases g.new l u e with h | h
    · rw [hF] at h
      cases h
    · rw [hH] at h
      cases h

/-! ### data -/
structure Rp (α : Type) where
  r : Frag → Hp → V → α → Prop
  mono : ∀ {K F F' v x}, Same F F' → r K F v x → r K F' v x

theorem SqT.same {K : Frag} {H H' : Hp} {a : Addr} {xs : List V} (e : Same H H') (h : SqT K H a xs) : SqT K H' a xs :=
  h.elim (fun h => .inl (h.elim (fun h => .inl (e _ _ h)) fun ⟨o, h⟩ => .inr ⟨o, e _ _ h⟩)) fun h => .inr h

abbrev PL {α : Type} (c : Rp α) (K : Frag) (F : Hp) (vs : List V) (xs : List α) : Prop := Paired (c.r K F) vs xs
theorem PL.mono {α : Type} {c : Rp α} {K : Frag} {F F' : Hp} {vs : List V} {xs : List α} (s : Same F F') (h : PL c K F vs xs) : PL c K F' vs xs :=
  Paired.mapP h fun _ _ => c.mono s
theorem Paired.get {α β : Type} {R : α → β → Prop} : ∀ {xs : List α} {ys : List β} {i : Nat} {y : β}, Paired R xs ys → ys[i]? = some y → ∃ x, xs[i]? = some x ∧ R x y
  | _, _, _, _, .nil, e => by simp at e
  | _, _, 0, _, .cons r _, e => by simp at e; subst e; exact ⟨_, rfl, r⟩
  | _, _, i + 1, y, .cons _ t, e => by
    obtain ⟨u, h1, h2⟩ := Paired.get (i := i) (y := y) t (by simpa using e)
    exact ⟨u, by simpa using h1, h2⟩
theorem Paired.getL {α β : Type} {R : α → β → Prop} : ∀ {xs : List α} {ys : List β} {i : Nat} {x : α}, Paired R xs ys → xs[i]? = some x → ∃ y, ys[i]? = some y ∧ R x y
  | _, _, _, _, .nil, e => by simp at e
  | _, _, 0, _, .cons r _, e => by simp at e; subst e; exact ⟨_, rfl, r⟩
  | _, _, i + 1, y, .cons _ t, e => by
    obtain ⟨u, h1, h2⟩ := Paired.getL (i := i) (x := y) t (by simpa using e)
    exact ⟨u, by simpa using h1, h2⟩
theorem Paired.append {α β : Type} {R : α → β → Prop} : ∀ {xs xs' : List α} {ys ys' : List β}, Paired R xs ys → Paired R xs' ys' → Paired R (xs ++ xs') (ys ++ ys')
  | _, _, _, _, .nil, s => s
  | _, _, _, _, .cons r t, s => .cons r (Paired.append t s)
theorem Paired.set {α β : Type} {R : α → β → Prop} {x : α} {y : β} (r : R x y) : ∀ {xs : List α} {ys : List β} (i : Nat), Paired R xs ys → Paired R (xs.set i x) (ys.set i y)
  | _, _, _, .nil => .nil
  | _, _, 0, .cons _ t => .cons r t
  | _, _, i + 1, .cons q t => .cons q (Paired.set r i t)
theorem Paired.take {α β : Type} {R : α → β → Prop} : ∀ {xs : List α} {ys : List β} (n : Nat), Paired R xs ys → Paired R (xs.take n) (ys.take n)
  | _, _, 0, _ => .nil
  | _, _, _ + 1, .nil => .nil
  | _, _, n + 1, .cons r t => .cons r (Paired.take n t)
theorem Paired.drop {α β : Type} {R : α → β → Prop} : ∀ {xs : List α} {ys : List β} (n : Nat), Paired R xs ys → Paired R (xs.drop n) (ys.drop n)
  | _, _, 0, r => r
  | _, _, _ + 1, .nil => .nil
  | _, _, n + 1, .cons _ t => Paired.drop n t
theorem Paired.map_eq {α : Type} {f : α → V} {R : V → α → Prop} (h : ∀ v x, R v x → v = f x) : ∀ {vs : List V} {xs : List α}, Paired R vs xs → vs = xs.map f
  | _, _, .nil => rfl
  | _, _, .cons r t => by rw [h _ _ r, Paired.map_eq h t]; rfl
theorem Paired.of_map {α : Type} {f : α → V} {R : V → α → Prop} (h : ∀ x, R (f x) x) : ∀ xs : List α, Paired R (xs.map f) xs
  | [] => .nil
  | x :: xs => .cons (h x) (Paired.of_map h xs)

def tx (l : List Nat) : Str := ⟨l.toArray⟩
theorem tx_inj {a b : List Nat} (h : tx a = tx b) : a = b := by
  have e := congrArg (fun s : Str => s.cps.toList) h
  simpa [tx] using e
theorem tx_toList (a : List Nat) : (tx a).cps.toList = a := by simp [tx]
theorem tx_of (s : Str) : tx s.cps.toList = s := by cases s; simp [tx]
theorem tx_len (a : List Nat) : (tx a).length = a.length := by simp [tx, Str.length]

def rInt : Rp Int := ⟨fun _ _ v x => v = .int x, fun _ h => h⟩
def rBool : Rp Bool := ⟨fun _ _ v x => v = .bl x, fun _ h => h⟩
def rNon : Rp Unit := ⟨fun _ _ v _ => v = .non, fun _ h => h⟩
def rTx : Rp (List Nat) := ⟨fun _ _ v x => v = .str (tx x), fun _ h => h⟩
/-- a tuple of alike items -/
def rT {α : Type} (c : Rp α) : Rp (List α) :=
  ⟨fun K F v xs => ∃ a vs, v = .ref a ∧ SqT K F a vs ∧ PL c K F vs xs, fun s ⟨a, vs, e, h, p⟩ => ⟨a, vs, e, SqT.same s h, PL.mono s p⟩⟩
/-- a frozen list of alike items -/
def rL {α : Type} (c : Rp α) : Rp (List α) :=
  ⟨fun K F v xs => ∃ a vs, v = .ref a ∧ F a = some (.lst vs) ∧ PL c K F vs xs, fun s ⟨a, vs, e, h, p⟩ => ⟨a, vs, e, s _ _ h, PL.mono s p⟩⟩
/-- the script: a list of ints, read only -/
def rScr : Rp (List Int) :=
  ⟨fun K F v xs => ∃ a, v = .ref a ∧ SqL K F a (xs.map V.int), fun s ⟨a, e, h⟩ => ⟨a, e, s.seq h⟩⟩
/-- tuples and lists of fixed form -/
def r2 {α β : Type} (c : Rp α) (d : Rp β) : Rp (α × β) :=
  ⟨fun K F v x => ∃ a v1 v2, v = .ref a ∧ SqT K F a [v1, v2] ∧ c.r K F v1 x.1 ∧ d.r K F v2 x.2, fun s ⟨a, v1, v2, e, h, p, q⟩ => ⟨a, v1, v2, e, SqT.same s h, c.mono s p, d.mono s q⟩⟩
def r3 {α β γ : Type} (c : Rp α) (d : Rp β) (e : Rp γ) : Rp (α × β × γ) :=
  ⟨fun K F v x => ∃ a v1 v2 v3, v = .ref a ∧ SqT K F a [v1, v2, v3] ∧ c.r K F v1 x.1 ∧ d.r K F v2 x.2.1 ∧ e.r K F v3 x.2.2,
    fun s ⟨a, v1, v2, v3, z, h, p, q, t⟩ => ⟨a, v1, v2, v3, z, SqT.same s h, c.mono s p, d.mono s q, e.mono s t⟩⟩
def rL2 {α β : Type} (c : Rp α) (d : Rp β) : Rp (α × β) :=
  ⟨fun K F v x => ∃ a v1 v2, v = .ref a ∧ F a = some (.lst [v1, v2]) ∧ c.r K F v1 x.1 ∧ d.r K F v2 x.2, fun s ⟨a, v1, v2, e, h, p, q⟩ => ⟨a, v1, v2, e, s _ _ h, c.mono s p, d.mono s q⟩⟩
def rL3 {α β γ : Type} (c : Rp α) (d : Rp β) (e : Rp γ) : Rp (α × β × γ) :=
  ⟨fun K F v x => ∃ a v1 v2 v3, v = .ref a ∧ F a = some (.lst [v1, v2, v3]) ∧ c.r K F v1 x.1 ∧ d.r K F v2 x.2.1 ∧ e.r K F v3 x.2.2,
    fun s ⟨a, v1, v2, v3, z, h, p, q, t⟩ => ⟨a, v1, v2, v3, z, s _ _ h, c.mono s p, d.mono s q, e.mono s t⟩⟩

/-! ### instances: fields by name -/
structure Fd : Type 1 where
  α : Type
  c : Rp α
  x : α
def fd {α : Type} (c : Rp α) (x : α) : Fd := ⟨α, c, x⟩
inductive FOk (K : Frag) (F : Hp) : List (Str × V) → List (Str × Fd) → Prop
  | nil : FOk K F [] []
  | cons {n : Str} {v : V} {f : Fd} {vs : List (Str × V)} {fs : List (Str × Fd)} : f.c.r K F v f.x → FOk K F vs fs → FOk K F ((n, v) :: vs) ((n, f) :: fs)
theorem FOk.mono {K : Frag} {F F' : Hp} (s : Same F F') : ∀ {vs : List (Str × V)} {fs : List (Str × Fd)}, FOk K F vs fs → FOk K F' vs fs
  | _, _, .nil => .nil
  | _, _, .cons (f := f) r t => .cons (f.c.mono s r) (t.mono s)
theorem FOk.look {K : Frag} {F : Hp} {n : Str} : ∀ {vs : List (Str × V)} {fs : List (Str × Fd)} {f : Fd}, FOk K F vs fs → fs.lookup n = some f → ∃ v, vs.lookup n = some v ∧ f.c.r K F v f.x
  | _, _, _, .nil, h => by cases h
  | _, _, f, .cons (n := m) (v := v) (f := g) (vs := vs) (fs := fs) r t, h => by
    simp only [List.lookup] at h ⊢
    cases e : n == m with
    | true =>
      rw [e] at h
      cases h
      exact ⟨v, rfl, r⟩
    | false =>
      rw [e] at h
      exact t.look h
theorem FOk.none {K : Frag} {F : Hp} {n : Str} : ∀ {vs : List (Str × V)} {fs : List (Str × Fd)}, FOk K F vs fs → fs.lookup n = none → vs.lookup n = none
  | _, _, .nil, h => rfl
  | _, _, .cons (n := m) (v := v) (f := g) (vs := vs) (fs := fs) r t, h => by
    simp only [List.lookup] at h ⊢
    cases e : n == m with
    | true =>
      rw [e] at h
      cases h
    | false =>
      rw [e] at h
      exact t.none h
theorem FOk.len {K : Frag} {F : Hp} : ∀ {vs : List (Str × V)} {fs : List (Str × Fd)}, FOk K F vs fs → vs.length = fs.length
  | _, _, .nil => rfl
  | _, _, .cons _ t => congrArg Nat.succ t.len
/-- a new field is put behind the others -/
theorem FOk.put {K : Frag} {F : Hp} {n : Str} {v : V} {g : Fd} (r : g.c.r K F v g.x) : ∀ {vs : List (Str × V)} {fs : List (Str × Fd)}, FOk K F vs fs → fs.lookup n = Option.none → FOk K F (putF n v vs) (fs ++ [(n, g)])
  | _, _, .nil, h => .cons r .nil
  | _, _, .cons (n := m) (v := u) (f := f) (vs := vs) (fs := fs) q t, h => by
    simp only [List.lookup] at h
    cases e : n == m with
    | true =>
      rw [e] at h
      cases h
    | false =>
      rw [e] at h
      have ne : ¬ m = n := fun z => by rw [z] at e; simp at e
      show FOk K F (if m = n then (m, v) :: vs else (m, u) :: putF n v vs) ((m, f) :: (fs ++ [(n, g)]))
      rw [if_neg ne]
      exact .cons q (t.put r h)
/-- a frozen instance of the class at C -/
def rIns {α : Type} (C : Addr) (fl : α → List (Str × Fd)) : Rp α :=
  ⟨fun K F v x => ∃ a dx vs, v = .ref a ∧ F a = some (.ins C dx vs) ∧ FOk K F vs (fl x), fun s ⟨a, dx, vs, e, h, p⟩ => ⟨a, dx, vs, e, s _ _ h, p.mono s⟩⟩

/-! ### slots -/
/-- an open cell of any kind -/
structure Cel where
  r : Frag → Hp → HO → Prop
  mono : ∀ {K F F' o}, Same F F' → r K F o → r K F' o
inductive Sl : Type 1 where
  | un
  | v {α : Type} (c : Rp α) (x : α)
  | ol {α : Type} (c : Rp α) (xs : List α)
  | od {α : Type} (c : Rp α) (kvs : List (Key × α))
  | oc (x C : Addr) (fs : List (Str × Fd))
  | ox (x : Addr) (φ : Cel)

def celO (K : Frag) (F : Hp) : Sl → HO → Prop
  | .ol c xs, o => ∃ vs, o = .lst vs ∧ PL c K F vs xs
  | .od c kvs, o => ∃ ps : List (Key × V), o = .dK ps ∧ Paired (fun (p : Key × V) q => p.1 = q.1 ∧ c.r K F p.2 q.2) ps kvs
  | .oc _ C fs, o => ∃ dx vs, o = .ins C dx vs ∧ FOk K F vs fs
  | .ox _ φ, o => φ.r K F o
  | _, _ => False
def Sl.cel : Sl → Bool
  | .ol _ _ => true
  | .od _ _ => true
  | .oc _ _ _ => true
  | .ox _ _ => true
  | _ => false
/-- an instance's own address -/
def Sl.pin : Sl → Addr → Prop
  | .oc x _ _, l => l = x
  | .ox x _, l => l = x
  | _, _ => True
theorem celO.mono {K : Frag} {F F' : Hp} (s : Same F F') : ∀ {t : Sl} {o : HO}, celO K F t o → celO K F' t o
  | .ol c xs, o, ⟨vs, e, p⟩ => ⟨vs, e, PL.mono s p⟩
  | .od c kvs, o, ⟨ps, e, p⟩ => ⟨ps, e, Paired.mapP p fun _ _ h => ⟨h.1, c.mono s h.2⟩⟩
  | .oc _ C fs, o, ⟨dx, vs, e, p⟩ => ⟨dx, vs, e, p.mono s⟩
  | .ox _ φ, _, h => φ.mono s h
  | .un, _, h => h.elim
  | .v _ _, _, h => h.elim
theorem celO.is {K : Frag} {F : Hp} : ∀ {t : Sl} {o : HO}, celO K F t o → t.cel = true
  | .ol _ _, _, _ => rfl
  | .od _ _, _, _ => rfl
  | .oc _ _ _, _, _ => rfl
  | .ox _ _, _, _ => rfl
  | .un, _, h => h.elim
  | .v _ _, _, h => h.elim

/-- the cell at l -/
structure CelAt (K : Frag) (H0 F H : Hp) (s : Sl) (l : Addr) : Prop where
  f : F l = none
  h0 : H0 l = none
  o : ∃ ho, H l = some ho ∧ celO K F s ho
  pin : s.pin l
def slOk (K : Frag) (H0 F H : Hp) (o : Option V) : Sl → Prop
  | .un => True
  | .v c x => ∃ u, o = some u ∧ c.r K F u x
  | s => ∃ l, o = some (.ref l) ∧ CelAt K H0 F H s l
theorem slOk.cell {K : Frag} {H0 F H : Hp} {o : Option V} : ∀ {s : Sl}, s.cel = true → slOk K H0 F H o s → ∃ l, o = some (.ref l) ∧ CelAt K H0 F H s l
  | .ol _ _, _, h => h
  | .od _ _, _, h => h
  | .oc _ _ _, _, h => h
  | .ox _ _, _, h => h
theorem slOk.of_cell {K : Frag} {H0 F H : Hp} {o : Option V} {l : Addr} : ∀ {s : Sl}, s.cel = true → o = some (.ref l) → CelAt K H0 F H s l → slOk K H0 F H o s
  | .ol _ _, _, e, h => ⟨l, e, h⟩
  | .od _ _, _, e, h => ⟨l, e, h⟩
  | .oc _ _ _, _, e, h => ⟨l, e, h⟩
  | .ox _ _, _, e, h => ⟨l, e, h⟩

structure Ok (K : Frag) (F0 H0 F H : Hp) (σ : St) (Γ : List Sl) : Prop where
  gr : Gr F0 H0 F H
  len : σ.length = Γ.length
  sl : ∀ (i : Nat) (s : Sl), Γ[i]? = some s → ∃ o, σ[i]? = some o ∧ slOk K H0 F H o s
  dis : ∀ (i j : Nat) (s t : Sl) (l : Addr), i ≠ j → Γ[i]? = some s → Γ[j]? = some t → s.cel = true → t.cel = true → σ[i]? = some (some (.ref l)) → σ[j]? = some (some (.ref l)) → False

theorem CelAt.grow {K : Frag} {H0 F H F' H' : Hp} {s : Sl} {l : Addr} (c : CelAt K H0 F H s l) (g : Gr F H F' H') : CelAt K H0 F' H' s l := by
  obtain ⟨ho, h, q⟩ := c.o
  exact ⟨g.none c.f h, c.h0, ⟨ho, g.hh _ _ h, q.mono g.ff⟩, c.pin⟩
theorem slOk.grow {K : Frag} {H0 F H F' H' : Hp} {o : Option V} (g : Gr F H F' H') : ∀ {s : Sl}, slOk K H0 F H o s → slOk K H0 F' H' o s
  | .un, _ => trivial
  | .v c x, ⟨u, e, r⟩ => ⟨u, e, c.mono g.ff r⟩
  | .ol _ _, ⟨l, e, c⟩ => ⟨l, e, c.grow g⟩
  | .od _ _, ⟨l, e, c⟩ => ⟨l, e, c.grow g⟩
  | .oc _ _ _, ⟨l, e, c⟩ => ⟨l, e, c.grow g⟩
  | .ox _ _, ⟨l, e, c⟩ => ⟨l, e, c.grow g⟩

section
variable {K : Frag} {F0 H0 F H F' H' : Hp} {σ : St} {Γ : List Sl}
theorem Ok.grow (k : Ok K F0 H0 F H σ Γ) (g : Gr F H F' H') : Ok K F0 H0 F' H' σ Γ :=
  ⟨k.gr.trans g, k.len, fun i s h => let ⟨o, e, q⟩ := k.sl i s h; ⟨o, e, q.grow g⟩, k.dis⟩
theorem Ok.sub (k : Ok K F0 H0 F H σ Γ) : Same F H := k.gr.sub
theorem Ok.val (k : Ok K F0 H0 F H σ Γ) {i : Nat} {α : Type} {c : Rp α} {x : α} (h : Γ[i]? = some (.v c x)) : ∃ u, σ[i]? = some (some u) ∧ c.r K F u x := by
  obtain ⟨o, e, u, e2, r⟩ := k.sl i _ h
  subst e2
  exact ⟨u, e, r⟩
theorem Ok.cell (k : Ok K F0 H0 F H σ Γ) {i : Nat} {s : Sl} (h : Γ[i]? = some s) (hc : s.cel = true) : ∃ l, σ[i]? = some (some (.ref l)) ∧ CelAt K H0 F H s l := by
  obtain ⟨o, e, q⟩ := k.sl i _ h
  obtain ⟨l, e2, q'⟩ := q.cell hc
  subst e2
  exact ⟨l, e, q'⟩
theorem set_get {α : Type _} {l : List α} {i j : Nat} {a b : α} (h : (l.set i a)[j]? = some b) : (i = j ∧ b = a ∧ j < l.length) ∨ (i ≠ j ∧ l[j]? = some b) := by
  by_cases e : i = j
  · subst e
    by_cases hi : i < l.length
    · rw [List.getElem?_set_self hi] at h
      exact .inl ⟨rfl, (Option.some.inj h).symm, hi⟩
    · rw [List.getElem?_eq_none (by simpa using hi)] at h
      cases h
  · rw [List.getElem?_set_ne e] at h
    exact .inr ⟨e, h⟩
/-- a slot is forgotten or gets a value -/
theorem Ok.setAny (k : Ok K F0 H0 F H σ Γ) {i : Nat} {s : Sl} {o : Option V} (hs : s.cel = false) (q : slOk K H0 F H o s) : Ok K F0 H0 F H (σ.set i o) (Γ.set i s) := by
  refine ⟨k.gr, by rw [List.length_set, List.length_set, k.len], fun j t h => ?_, fun a b s' t' l hab ha hb ca cb ea eb => ?_⟩
  · rcases set_get h with ⟨rfl, rfl, hl⟩ | ⟨hne, h⟩
    · exact ⟨o, by rw [List.getElem?_set_self (by rw [k.len]; exact hl)], q⟩
    · obtain ⟨o', e, q'⟩ := k.sl j t h
      exact ⟨o', by rw [List.getElem?_set_ne hne]; exact e, q'⟩
  · rcases set_get ha with ⟨rfl, rfl, _⟩ | ⟨na, ha⟩
    · rw [hs] at ca
      cases ca
    · rcases set_get hb with ⟨rfl, rfl, _⟩ | ⟨nb, hb⟩
      · rw [hs] at cb
        cases cb
      · rw [List.getElem?_set_ne na] at ea
        rw [List.getElem?_set_ne nb] at eb
        exact k.dis a b s' t' l hab ha hb ca cb ea eb
theorem Ok.setV (k : Ok K F0 H0 F H σ Γ) {i : Nat} {α : Type} {c : Rp α} {x : α} {u : V} (r : c.r K F u x) : Ok K F0 H0 F H (σ.set i (some u)) (Γ.set i (.v c x)) :=
  k.setAny rfl ⟨u, rfl, r⟩
/-- a new cell is put into a slot; behind the growth from Ok's heap -/
theorem Ok.setC (k : Ok K F0 H0 F H σ Γ) (g : Gr F H F' H') {i : Nat} {s : Sl} {l : Addr} {ho : HO} (hl : H l = none) (hF : F' l = none) (hH : H' l = some ho) (q : celO K F' s ho) (hp : s.pin l) :
    Ok K F0 H0 F' H' (σ.set i (some (.ref l))) (Γ.set i s) := by
  have k' := k.grow g
  have hcel := q.is
  have ca : CelAt K H0 F' H' s l := ⟨hF, none_of_same k.gr.hh hl, ⟨ho, hH, q⟩, hp⟩
  have old : ∀ (j : Nat) (t : Sl), Γ[j]? = some t → t.cel = true → σ[j]? = some (some (.ref l)) → False := fun j t h c e => by
    obtain ⟨l', e', c'⟩ := k.cell h c
    rw [e] at e'
    cases e'
    obtain ⟨ho', h', _⟩ := c'.o
    rw [hl] at h'
    cases h'
  refine ⟨k'.gr, by rw [List.length_set, List.length_set, k.len], fun j t h => ?_, fun a b s' t' l' hab ha hb ca' cb ea eb => ?_⟩
  · rcases set_get h with ⟨rfl, rfl, hl'⟩ | ⟨hne, h⟩
    · exact ⟨_, by rw [List.getElem?_set_self (by rw [k.len]; exact hl')], slOk.of_cell hcel rfl ca⟩
    · obtain ⟨o', e, q'⟩ := k'.sl j t h
      exact ⟨o', by rw [List.getElem?_set_ne hne]; exact e, q'⟩
  · rcases set_get ha with ⟨za, ya, hla⟩ | ⟨na, ga⟩
    · rcases set_get hb with ⟨zb, yb, _⟩ | ⟨nb, gb⟩
      · exact hab (za.symm.trans zb)
      · rw [← za, List.getElem?_set_self (by rw [k.len, za]; exact hla)] at ea
        rw [List.getElem?_set_ne nb] at eb
        cases ea
        exact old b t' gb cb eb
    · rcases set_get hb with ⟨zb, yb, hlb⟩ | ⟨nb, gb⟩
      · rw [← zb, List.getElem?_set_self (by rw [k.len, zb]; exact hlb)] at eb
        rw [List.getElem?_set_ne na] at ea
        cases eb
        exact old a s' ga ca' ea
      · rw [List.getElem?_set_ne na] at ea
        rw [List.getElem?_set_ne nb] at eb
        exact k.dis a b s' t' l' hab ga gb ca' cb ea eb
/-- a cell is written -/
theorem Ok.write (k : Ok K F0 H0 F H σ Γ) {i : Nat} {s s' : Sl} {l : Addr} {ho : HO} (h : Γ[i]? = some s) (hc : s.cel = true) (hl : σ[i]? = some (some (.ref l))) (q : celO K F s' ho) (hp : s'.pin l := by trivial) :
    Ok K F0 H0 F (upd H l ho) σ (Γ.set i s') := by
  obtain ⟨l', e', c⟩ := k.cell h hc
  rw [hl] at e'
  cases e'
  have hcel := q.is
  refine ⟨⟨same_upd2 k.gr.hh c.h0, k.gr.ff, same_upd2 k.gr.sub c.f, k.gr.new⟩, by rw [List.length_set, k.len], fun j t hj => ?_, fun a b s1 t1 l' hab ha hb ca cb ea eb => ?_⟩
  · rcases set_get hj with ⟨rfl, rfl, _⟩ | ⟨hne, hj⟩
    · exact ⟨_, hl, slOk.of_cell hcel rfl ⟨c.f, c.h0, ⟨ho, upd_same, q⟩, hp⟩⟩
    · obtain ⟨o', e, q'⟩ := k.sl j t hj
      refine ⟨o', e, ?_⟩
      by_cases ct : t.cel = true
      · obtain ⟨l2, e2, c2⟩ := q'.cell ct
        obtain ⟨ho2, h2, q2⟩ := c2.o
        have nl : l2 ≠ l := fun z => by
          subst z
          exact k.dis i j s t l2 hne h hj hc ct hl (e2 ▸ e)
        exact slOk.of_cell ct e2 ⟨c2.f, c2.h0, ⟨ho2, by rw [upd_ne nl]; exact h2, q2⟩, c2.pin⟩
      · cases t with
        | un => trivial
        | v c x => exact q'
        | ol _ _ => exact absurd rfl ct
        | od _ _ => exact absurd rfl ct
        | oc _ _ _ => exact absurd rfl ct
        | ox _ _ => exact absurd rfl ct
  · have fix : ∀ (j : Nat) (t : Sl), (Γ.set i s')[j]? = some t → t.cel = true → ∃ t', Γ[j]? = some t' ∧ t'.cel = true := fun j t hj ct => by
      rcases set_get hj with ⟨rfl, _, _⟩ | ⟨_, hj⟩
      · exact ⟨s, h, hc⟩
      · exact ⟨t, hj, ct⟩
    obtain ⟨s2, hs2, cs2⟩ := fix a s1 ha ca
    obtain ⟨t2, ht2, ct2⟩ := fix b t1 hb cb
    exact k.dis a b s2 t2 l' hab hs2 ht2 cs2 ct2 ea eb
/-- a cell is frozen: from now on it is a value -/
theorem Ok.freeze (k : Ok K F0 H0 F H σ Γ) {i : Nat} {s : Sl} {l : Addr} {ho : HO} {α : Type} {c : Rp α} {x : α} (h : Γ[i]? = some s) (hc : s.cel = true) (hl : σ[i]? = some (some (.ref l))) (hH : H l = some ho)
    (q : c.r K (upd F l ho) (.ref l) x) : Ok K F0 H0 (upd F l ho) H σ (Γ.set i (.v c x)) := by
  obtain ⟨l', e', ca⟩ := k.cell h hc
  rw [hl] at e'
  cases e'
  have sf : Same F (upd F l ho) := same_upd ca.f
  refine ⟨⟨k.gr.hh, k.gr.ff.trans sf, fun b o e => ?_, fun b o e => ?_⟩, by rw [List.length_set, k.len], fun j t hj => ?_, fun a b s1 t1 l' hab ha hb ca cb ea eb => ?_⟩
  · by_cases hb : b = l
    · subst hb
      rw [upd_same] at e
      cases e
      exact hH
    · rw [upd_ne hb] at e
      exact k.gr.sub _ _ e
  · by_cases hb : b = l
    · subst hb
      exact .inr ca.h0
    · rw [upd_ne hb] at e
      exact k.gr.new _ _ e
  · rcases set_get hj with ⟨rfl, rfl, _⟩ | ⟨hne, hj⟩
    · exact ⟨_, hl, _, rfl, q⟩
    · obtain ⟨o', e, q'⟩ := k.sl j t hj
      refine ⟨o', e, ?_⟩
      by_cases ct : t.cel = true
      · obtain ⟨l2, e2, c2⟩ := q'.cell ct
        obtain ⟨ho2, h2, q2⟩ := c2.o
        have nl : l2 ≠ l := fun z => by
          subst z
          exact k.dis i j s t l2 hne h hj hc ct hl (e2 ▸ e)
        exact slOk.of_cell ct e2 ⟨by rw [upd_ne nl]; exact c2.f, c2.h0, ⟨ho2, h2, q2.mono sf⟩, c2.pin⟩
      · cases t with
        | un => trivial
        | v c x =>
          obtain ⟨u, eu, r⟩ := q'
          exact ⟨u, eu, c.mono sf r⟩
        | ol _ _ => exact absurd rfl ct
        | od _ _ => exact absurd rfl ct
        | oc _ _ _ => exact absurd rfl ct
        | ox _ _ => exact absurd rfl ct
  · have fix : ∀ (j : Nat) (t : Sl), (Γ.set i (Sl.v c x))[j]? = some t → t.cel = true → Γ[j]? = some t := fun j t hj ct => by
      rcases set_get hj with ⟨rfl, rfl, _⟩ | ⟨_, hj⟩
      · cases ct
      · exact hj
    exact k.dis a b s1 t1 l' hab (fix a s1 ha ca) (fix b t1 hb cb) ca cb ea eb
end
/-- Γ' says less than Γ -/
def Wk : List Sl → List Sl → Prop
  | [], [] => True
  | a :: Γ, b :: Γ' => (b = .un ∨ a = b) ∧ Wk Γ Γ'
  | _, _ => False
theorem Wk.refl : ∀ Γ : List Sl, Wk Γ Γ
  | [] => trivial
  | _ :: Γ => ⟨.inr rfl, Wk.refl Γ⟩
theorem Wk.len : ∀ {Γ Γ' : List Sl}, Wk Γ Γ' → Γ.length = Γ'.length
  | [], [], _ => rfl
  | _ :: _, _ :: _, h => congrArg Nat.succ h.2.len
  | [], _ :: _, h => h.elim
  | _ :: _, [], h => h.elim
theorem Wk.get : ∀ {Γ Γ' : List Sl}, Wk Γ Γ' → ∀ {i : Nat} {s : Sl}, Γ'[i]? = some s → s = .un ∨ Γ[i]? = some s
  | [], [], _, i, s, h => by simp at h
  | a :: _, b :: _, w, 0, s, h => by
    have e : b = s := by simpa using h
    subst e
    rcases w.1 with e | e
    · exact .inl e
    · exact .inr (by simp [e])
  | a :: _, b :: _, w, i + 1, s, h => by
    have := w.2.get (i := i) (s := s) (by simpa using h)
    simpa using this
  | [], _ :: _, h, _, _, _ => h.elim
  | _ :: _, [], h, _, _, _ => h.elim
theorem Wk.set : ∀ {Γ Γ' : List Sl} {i : Nat} {s : Sl}, Wk Γ Γ' → Wk (Γ.set i s) (Γ'.set i s)
  | [], [], _, _, _ => trivial
  | _ :: _, _ :: _, 0, _, w => ⟨.inr rfl, w.2⟩
  | _ :: _, _ :: _, i + 1, _, w => ⟨w.1, w.2.set⟩
  | [], _ :: _, _, _, h => h.elim
  | _ :: _, [], _, _, h => h.elim
theorem Ok.weak {K : Frag} {F0 H0 F H : Hp} {σ : St} {Γ Γ' : List Sl} (k : Ok K F0 H0 F H σ Γ) (w : Wk Γ Γ') : Ok K F0 H0 F H σ Γ' := by
  refine ⟨k.gr, k.len.trans w.len, fun i s h => ?_, fun i j s t l hij hi hj ci cj => ?_⟩
  · rcases w.get h with e | h'
    · subst e
      have : i < σ.length := by rw [k.len, w.len]; exact (List.getElem?_eq_some_iff.mp h).1
      exact ⟨σ[i], List.getElem?_eq_getElem this, trivial⟩
    · exact k.sl i s h'
  · rcases w.get hi with e | hi'
    · subst e
      cases ci
    · rcases w.get hj with e | hj'
      · subst e
        cases cj
      · exact k.dis i j s t l hij hi' hj' ci cj
end Z

set_option Elab.async false
set_option linter.all false
set_option maxRecDepth 100000
set_option maxHeartbeats 4000000
/-! Zed: expressions. -/
namespace Z
open PySem PySem.Spec PyProof.Rows L2

theorem _root_.L2.PE.imp {X : Cx} {e : Expr} {t u : TE} (h : PE X e t) (i : ∀ σ H Q, u σ H Q → t σ H Q) : PE X e u := ⟨fun pins s σ H Q I q => h.run pins s σ H Q I (i σ H Q q)⟩
theorem _root_.L2.PT.imp {X : Cx} {e : Expr} {t u : TT} (h : PT X e t) (i : ∀ σ H Q, u σ H Q → t σ H Q) : PT X e u := ⟨fun pins s σ H Q I q => h.run pins s σ H Q I (i σ H Q q)⟩
theorem _root_.L2.PW.imp {X : Cx} {e : Expr} {t u : TT} (h : PW X e t) (i : ∀ σ H Q, u σ H Q → t σ H Q) : PW X e u := ⟨fun wh pins s σ H Q I q => h.run wh pins s σ H Q I (i σ H Q q)⟩
theorem _root_.L2.PA.imp {X : Cx} {es : List Expr} {t u : TA} (h : PA X es t) (i : ∀ σ H Q, u σ H Q → t σ H Q) : PA X es u := ⟨fun pos pins s σ H Q I q => h.run pos pins s σ H Q I (i σ H Q q)⟩
theorem _root_.L2.PK.imp {X : Cx} {es : List Keyword} {t u : TA} (h : PK X es t) (i : ∀ σ H Q, u σ H Q → t σ H Q) : PK X es u := ⟨fun pos pins s σ H Q I q => h.run pos pins s σ H Q I (i σ H Q q)⟩
theorem _root_.L2.PO.imp {X : Cx} {e : Option Expr} {t u : TO} (h : PO X e t) (i : ∀ σ H Q, u σ H Q → t σ H Q) : PO X e u := ⟨fun pins s σ H Q I q => h.run pins s σ H Q I (i σ H Q q)⟩
theorem _root_.L2.PI.imp {X : Cx} {tg e : Expr} {t u : TI} (h : PI X tg e t) (i : ∀ σ H Q, u σ H Q → t σ H Q) : PI X tg e u := ⟨fun pins s σ H Q I q => h.run pins s σ H Q I (i σ H Q q)⟩
theorem _root_.L2.PG.imp {X : Cx} {e : Expr} {t u : TG} (h : PG X e t) (i : ∀ v σ H Q, u v σ H Q → t v σ H Q) : PG X e u := ⟨fun pins s σ H v w Q I r q => h.run pins s σ H v w Q I r (i v σ H Q q)⟩
theorem _root_.L2.PS.imp {X : Cx} {e : Stmt} {t u : TS} (h : PS X e t) (i : ∀ D σ H, u D σ H → t D σ H) : PS X e u := ⟨fun pins s σ H D I q => h.run pins s σ H D I (i D σ H q)⟩
theorem _root_.L2.PSs.imp {X : Cx} {e : List Stmt} {t u : TS} (h : PSs X e t) (i : ∀ D σ H, u D σ H → t D σ H) : PSs X e u := ⟨fun pins s σ H D I q => h.run pins s σ H D I (i D σ H q)⟩
theorem _root_.L2.PTs.imp {X : Cx} {e : List Expr} {t u : TT} (h : PTs X e t) (i : ∀ σ H Q, u σ H Q → t σ H Q) : PTs X e u := ⟨fun pins s σ H Q I q => h.run pins s σ H Q I (i σ H Q q)⟩

/-! ### what an expression's value is -/
structure VP where
  p : Frag → Hp → Hp → V → Prop
  mono : ∀ {K F H F' H' v}, Gr F H F' H' → p K F H v → p K F' H' v
def vv {α : Type} (c : Rp α) (x : α) : VP := ⟨fun K F _ v => c.r K F v x, fun g h => c.mono g.ff h⟩
/-- a list that may be read -/
def vl {α : Type} (c : Rp α) (xs : List α) : VP :=
  ⟨fun K F H v => ∃ l vs, v = .ref l ∧ SqL K H l vs ∧ PL c K F vs xs, fun g ⟨l, vs, e, h, p⟩ => ⟨l, vs, e, g.hh.seq h, PL.mono g.ff p⟩⟩
def tE (K : Frag) (Γ : List Sl) (P : VP) : TE := fun σ H Q => ∃ F0 H0 F, Ok K F0 H0 F H σ Γ ∧ ∀ v F' H', Gr F H F' H' → P.p K F' H' v → Q v H'
abbrev Ez (X : Cx) (e : Expr) (Γ : List Sl) (P : VP) : Prop := PE X e (tE X.K Γ P)
abbrev EV (X : Cx) (e : Expr) (Γ : List Sl) {α : Type} (c : Rp α) (x : α) : Prop := Ez X e Γ (vv c x)
abbrev EL (X : Cx) (e : Expr) (Γ : List Sl) {α : Type} (c : Rp α) (xs : List α) : Prop := Ez X e Γ (vl c xs)
/-- a test -/
def tEB (K : Frag) (Γ : List Sl) (b : Bool) : TT := fun σ H Q => ∃ F0 H0 F, Ok K F0 H0 F H σ Γ ∧ ∀ F' H', Gr F H F' H' → Q b H'
abbrev EB (X : Cx) (e : Expr) (Γ : List Sl) (b : Bool) : Prop := PT X e (tEB X.K Γ b)
abbrev EW (X : Cx) (e : Expr) (Γ : List Sl) (b : Bool) : Prop := PW X e (tEB X.K Γ b)
/-- a new cell -/
def tEO (K : Frag) (Γ : List Sl) (s : Sl) : TE := fun σ H Q => ∃ F0 H0 F, Ok K F0 H0 F H σ Γ ∧ ∀ l ho F' H', Gr F H F' H' → F' l = none → H l = none → H' l = some ho → celO K F' s ho → Q (.ref l) H'
abbrev EO (X : Cx) (e : Expr) (Γ : List Sl) (s : Sl) : Prop := PE X e (tEO X.K Γ s)
/-- arguments -/
def tEA (K : Frag) (Γ : List Sl) (Ps : List VP) : TA := fun σ H Q => ∃ F0 H0 F, Ok K F0 H0 F H σ Γ ∧ ∀ vs F' H', Gr F H F' H' → Paired (fun v (P : VP) => P.p K F' H' v) vs Ps → Q vs H'
abbrev EA (X : Cx) (es : List Expr) (Γ : List Sl) (Ps : List VP) : Prop := PA X es (tEA X.K Γ Ps)

section
variable {X : Cx} {Γ : List Sl} {a b e : Expr} {es : List Expr} {pos : Pos} {α β γ : Type} {c : Rp α} {d : Rp β} {k : Rp γ} {x : α} {y : β} {P P' : VP}

theorem Ez.to (h : Ez X e Γ P) (i : ∀ {F H v}, Same F H → P.p X.K F H v → P'.p X.K F H v) : Ez X e Γ P' :=
  PE.imp h fun σ H Q ⟨F0, H0, F, ok, q⟩ => ⟨F0, H0, F, ok, fun v F' H' g p => q v F' H' g (i g.sub p)⟩
theorem EV.cast {x' : α} (h : EV X e Γ c x) (e' : x = x') : EV X e Γ c x' := e' ▸ h
theorem EB.cast {b b' : Bool} (h : EB X e Γ b) (e' : b = b') : EB X e Γ b' := e' ▸ h
theorem EL.of (h : EV X e Γ (rL c) xs) : EL X e Γ c xs := Ez.to h fun s ⟨l, vs, e, h, p⟩ => ⟨l, vs, e, SqL.of (s _ _ h), p⟩
theorem EL.scr (h : EV X e Γ rScr ns) : EL X e Γ rInt ns := Ez.to h fun s ⟨l, e, h⟩ => ⟨l, _, e, s.seq h, Paired.of_map (f := V.int) (fun _ => rfl) _⟩

/-! ### names -/
theorem ev (i : Nat) {n : Str} {p : Pos} (h : Γ[i]? = some (.v c x) := by rfl) (hN : X.N[i]? = some n := by rfl) (hv : Vis X.env.scope n := by first | exact Or.inl rfl | exact Or.inr (Or.inl rfl) | exact Or.inr (Or.inr rfl))
    (hd : (n == ("__debug__" : Str)) = false := by decide) (hcd : (n == ("__classdict__" : Str)) = false := by decide) : EV X (.Name n p) Γ c x :=
  PE.imp (pv i hN hv hd hcd) fun σ H Q ⟨F0, H0, F, ok, q⟩ => by
    obtain ⟨u, e, r⟩ := ok.val h
    exact ⟨u, e, q u F H (Gr.refl ok.sub) r⟩
theorem el (i : Nat) {n : Str} {p : Pos} {xs : List α} (h : Γ[i]? = some (.ol c xs) := by rfl) (hN : X.N[i]? = some n := by rfl) (hv : Vis X.env.scope n := by first | exact Or.inl rfl | exact Or.inr (Or.inl rfl) | exact Or.inr (Or.inr rfl))
    (hd : (n == ("__debug__" : Str)) = false := by decide) (hcd : (n == ("__classdict__" : Str)) = false := by decide) : EL X (.Name n p) Γ c xs :=
  PE.imp (pv i hN hv hd hcd) fun σ H Q ⟨F0, H0, F, ok, q⟩ => by
    obtain ⟨l, e, ca⟩ := ok.cell h rfl
    obtain ⟨ho, hl, vs, eh, p⟩ := ca.o
    subst eh
    exact ⟨_, e, q _ F H (Gr.refl ok.sub) ⟨l, vs, rfl, SqL.of hl, p⟩⟩
theorem ev_c {v : V} (h : PE X e (tC v)) (r : ∀ F, c.r X.K F v x) : EV X e Γ c x :=
  PE.imp h fun σ H Q ⟨F0, H0, F, ok, q⟩ => q v F H (Gr.refl ok.sub) (r F)
theorem ev_int {i : Int} {j p} : EV X (.Constant (.int i) j p) Γ rInt i := ev_c pe_int fun _ => rfl
theorem ev_bl {i : Bool} {j p} : EV X (.Constant (.bool i) j p) Γ rBool i := ev_c pe_bl fun _ => rfl
theorem ev_non {j p} : EV X (.Constant .none j p) Γ rNon () := ev_c pe_non fun _ => rfl
theorem ev_str {s : Str} {j p} (l : List Nat) (h : s = tx l := by decide +kernel) : EV X (.Constant (.str s) j p) Γ rTx l := by
  subst h
  exact ev_c pe_str fun _ => rfl
theorem ev_glob {n : Str} {u : Value} {p : Pos} {v : V} (hm : X.mg n = some u) (r : RelV v u) (hc : ∀ F, c.r X.K F v x) (hg : Gl X n := by rfl) (hd : (n == ("__debug__" : Str)) = false := by decide) : EV X (.Name n p) Γ c x :=
  ev_c (pe_glob hg hm r hd) hc

/-! ### operators -/
theorem ez_bin {r : R2} {P1 P2 P3 : VP} (h : PE X e (tOp r (tE X.K Γ P1) (tE X.K Γ P2)))
    (q : ∀ F H v w (Q : VK), Same F H → P1.p X.K F H v → P2.p X.K F H w → (∀ u F' H', Gr F H F' H' → P3.p X.K F' H' u → Q u H') → r v w H Q) : Ez X e Γ P3 :=
  PE.imp h fun σ H Q ⟨F0, H0, F, ok, z⟩ => ⟨F0, H0, F, ok, fun v F1 H1 g1 p1 => ⟨F0, H0, F1, ok.grow g1, fun w F2 H2 g2 p2 =>
    q F2 H2 v w Q g2.sub (P1.mono g2 p1) p2 fun u F3 H3 g3 p3 => z u F3 H3 ((g1.trans g2).trans g3) p3⟩⟩
theorem eo_bin {r : R2} {P1 P2 : VP} {s : Sl} (h : PE X e (tOp r (tE X.K Γ P1) (tE X.K Γ P2)))
    (q : ∀ F H v w (Q : VK), Same F H → P1.p X.K F H v → P2.p X.K F H w → (∀ l ho F' H', Gr F H F' H' → F' l = none → H l = none → H' l = some ho → celO X.K F' s ho → Q (.ref l) H') → r v w H Q) : EO X e Γ s :=
  PE.imp h fun σ H Q ⟨F0, H0, F, ok, z⟩ => ⟨F0, H0, F, ok, fun v F1 H1 g1 p1 => ⟨F0, H0, F1, ok.grow g1, fun w F2 H2 g2 p2 =>
    q F2 H2 v w Q g2.sub (P1.mono g2 p1) p2 fun l ho F3 H3 g3 hF hH hH' p3 => z l ho F3 H3 ((g1.trans g2).trans g3) hF (none_of_same (g1.trans g2).hh hH) hH' p3⟩⟩
/-- a new cell is frozen at once -/
theorem EO.ev {s : Sl} (h : EO X e Γ s) (q : ∀ F l ho, F l = none → celO X.K F s ho → P.p X.K (upd F l ho) (upd F l ho) (.ref l)) (st : ∀ {F H v}, Same F H → P.p X.K F F v → P.p X.K F H v) : Ez X e Γ P :=
  PE.imp h fun σ H Q ⟨F0, H0, F, ok, z⟩ => ⟨F0, H0, F, ok, fun l ho F' H' g hF hl hH p => by
    have sub : Same (upd F' l ho) H' := fun b o e => by
      by_cases hb : b = l
      · subst hb
        rw [upd_same] at e
        cases e
        exact hH
      · rw [upd_ne hb] at e
        exact g.sub _ _ e
    refine z (.ref l) (upd F' l ho) H' ⟨g.hh, g.ff.trans (same_upd hF), sub, fun b o e => ?_⟩ (st sub (q F' l ho hF p))
    by_cases hb : b = l
    · subst hb
      exact .inr hl
    · rw [upd_ne hb] at e
      exact g.new _ _ e⟩
theorem EO.fz {xs : List α} (h : EO X e Γ (.ol c xs)) : EV X e Γ (rL c) xs :=
  EO.ev h (fun F l ho hF ⟨vs, eo, p⟩ => ⟨l, vs, rfl, by rw [eo, upd_same], PL.mono (same_upd hF) p⟩) fun _ h => h

theorem ev_ii {op : Operator} {g : Int → Int → Int} (ho : OpR X (binaryOp op) (rI0 fun i j => .int (g i j))) {i j : Int} (ha : EV X a Γ rInt i) (hb : EV X b Γ rInt j) : EV X (.BinOp a op b pos) Γ rInt (g i j) :=
  ez_bin (pe_op ho ha hb) fun F H v w Q s h1 h2 z => ⟨i, j, h1, h2, z _ F H (Gr.refl s) rfl⟩
theorem ev_iiC {op : Operator} {g : Int → Int → Int} {C : Int → Int → Prop} (ho : OpR X (binaryOp op) (rI C fun i j => .int (g i j))) {i j : Int} (ha : EV X a Γ rInt i) (hb : EV X b Γ rInt j) (hc : C i j) : EV X (.BinOp a op b pos) Γ rInt (g i j) :=
  ez_bin (pe_op ho ha hb) fun F H v w Q s h1 h2 z => ⟨i, j, h1, h2, hc, z _ F H (Gr.refl s) rfl⟩
theorem ev_add {i j : Int} (ha : EV X a Γ rInt i) (hb : EV X b Γ rInt j) : EV X (.BinOp a .Add b pos) Γ rInt (i + j) := ev_ii op_add ha hb
theorem ev_sub {i j : Int} (ha : EV X a Γ rInt i) (hb : EV X b Γ rInt j) : EV X (.BinOp a .Sub b pos) Γ rInt (i - j) := ev_ii op_sub ha hb
theorem ev_mul {i j : Int} (ha : EV X a Γ rInt i) (hb : EV X b Γ rInt j) (hc : CMul i j) : EV X (.BinOp a .Mult b pos) Γ rInt (i * j) := ev_iiC op_mul ha hb hc
theorem ev_mod {i j : Int} (ha : EV X a Γ rInt i) (hb : EV X b Γ rInt j) (hc : 0 < j) : EV X (.BinOp a .Mod b pos) Γ rInt (i % j) := ev_iiC op_mod ha hb hc
theorem ev_fdiv {i j : Int} (ha : EV X a Γ rInt i) (hb : EV X b Γ rInt j) (hc : CDiv i j) : EV X (.BinOp a .FloorDiv b pos) Γ rInt (i / j) := ev_iiC op_fdiv ha hb hc
theorem ev_pow {i j : Int} (ha : EV X a Γ rInt i) (hb : EV X b Γ rInt j) (hc : CPow i j) : EV X (.BinOp a .Pow b pos) Γ rInt (i ^ j.toNat) := ev_iiC op_pow ha hb hc
theorem ev_neg {i : Int} (ha : EV X a Γ rInt i) : EV X (.UnaryOp .USub a pos) Γ rInt (-i) :=
  PE.imp (pe_un un_neg ha) fun σ H Q ⟨F0, H0, F, ok, q⟩ => ⟨F0, H0, F, ok, fun v F' H' g h => ⟨i, h, q _ F' H' g rfl⟩⟩
theorem tx_app (l m : List Nat) : tx l ++ tx m = tx (l ++ m) := by
  apply ext_toList
  show ((tx l).cps ++ (tx m).cps).toList = _
  simp [tx]
/-- texts: + -/
theorem ev_cat {l m : List Nat} (ha : EV X a Γ rTx l) (hb : EV X b Γ rTx m) (hc : l.length + m.length ≤ 16777216) : EV X (.BinOp a .Add b pos) Γ rTx (l ++ m) :=
  ez_bin (pe_op op_add_str ha hb) fun F H v w Q s h1 h2 z => ⟨tx l, tx m, h1, h2, by rw [tx_len, tx_len, sizeLine_eq]; exact hc, by rw [tx_app]; exact z _ F H (Gr.refl s) rfl⟩
/-- tuples: + -/
theorem ev_catT {l m : List α} (ha : EV X a Γ (rT c) l) (hb : EV X b Γ (rT c) m) (hc : l.length + m.length ≤ 16777216) : EV X (.BinOp a .Add b pos) Γ (rT c) (l ++ m) :=
  ez_bin (pe_op op_catA ha hb) fun F H v w Q s ⟨p, vs, e1, h1, r1⟩ ⟨q, ws, e2, h2, r2⟩ z => ⟨p, q, vs, ws, e1, e2, SqT.same s h1, SqT.same s h2, by rw [Paired.length r1, Paired.length r2, sizeLine_eq]; exact hc, fun n => by
      subst n
      cases r1
      exact z _ F H (Gr.refl s) ⟨q, ws, rfl, h2, r2⟩,
    fun n n2 => by
      subst n2
      cases r2
      rw [List.append_nil] at z
      exact z _ F H (Gr.refl s) ⟨p, vs, rfl, h1, r1⟩,
    fun n n2 t ht => z _ (upd F t (.tup (vs ++ ws))) _ (Gr.put s ht) ⟨t, vs ++ ws, rfl, SqT.of upd_same, Paired.append (PL.mono (same_upd (none_of_same s ht)) r1) (PL.mono (same_upd (none_of_same s ht)) r2)⟩⟩
/-- frozen lists: + -/
theorem eo_catL {l m : List α} (ha : EV X a Γ (rL c) l) (hb : EV X b Γ (rL c) m) (hc : l.length + m.length ≤ 16777216) : EO X (.BinOp a .Add b pos) Γ (.ol c (l ++ m)) :=
  eo_bin (pe_op op_cat ha hb) fun F H v w Q s ⟨p, vs, e1, h1, r1⟩ ⟨q, ws, e2, h2, r2⟩ z => ⟨p, q, vs, ws, e1, e2, s _ _ h1, s _ _ h2, by rw [Paired.length r1, Paired.length r2, sizeLine_eq]; exact hc,
    fun t ht => z t _ F _ (Gr.hold s ht) (none_of_same s ht) ht upd_same ⟨vs ++ ws, rfl, Paired.append r1 r2⟩⟩

/-! ### comparisons -/
theorem ev_cmpI {op : CmpOp} {g : Int → Int → Bool} (ho : OpR X (compareOp op) (rI0 fun i j => .bl (g i j))) (hm : behindInMarks op b = false) {i j : Int} (ha : EV X a Γ rInt i) (hb : EV X b Γ rInt j) : EV X (.Compare a [op] [b] pos) Γ rBool (g i j) :=
  ez_bin (pe_cmpR ho ha hb hm) fun F H v w Q s h1 h2 z => ⟨i, j, h1, h2, z _ F H (Gr.refl s) rfl⟩
theorem ev_lt {i j : Int} (ha : EV X a Γ rInt i) (hb : EV X b Γ rInt j) : EV X (.Compare a [.Lt] [b] pos) Γ rBool (decide (i < j)) := ev_cmpI op_lt (nomark _) ha hb
theorem ev_le {i j : Int} (ha : EV X a Γ rInt i) (hb : EV X b Γ rInt j) : EV X (.Compare a [.LtE] [b] pos) Γ rBool (decide (i ≤ j)) := ev_cmpI op_le (nomark _) ha hb
theorem ev_gt {i j : Int} (ha : EV X a Γ rInt i) (hb : EV X b Γ rInt j) : EV X (.Compare a [.Gt] [b] pos) Γ rBool (decide (j < i)) := ev_cmpI op_gt (nomark _) ha hb
theorem ev_ge {i j : Int} (ha : EV X a Γ rInt i) (hb : EV X b Γ rInt j) : EV X (.Compare a [.GtE] [b] pos) Γ rBool (decide (j ≤ i)) := ev_cmpI op_ge (nomark _) ha hb
theorem ev_eqI {i j : Int} (ha : EV X a Γ rInt i) (hb : EV X b Γ rInt j) : EV X (.Compare a [.Eq] [b] pos) Γ rBool (decide (i = j)) :=
  ez_bin (pe_cmpR op_eq ha hb (nomark _)) fun F H v w Q s h1 h2 z => by
    cases h1
    cases h2
    refine ⟨rfl, z _ F H (Gr.refl s) ?_⟩
    show V.bl _ = V.bl _
    rw [dec_int, Bool.beq_eq_decide_eq]
theorem ev_neI {i j : Int} (ha : EV X a Γ rInt i) (hb : EV X b Γ rInt j) : EV X (.Compare a [.NotEq] [b] pos) Γ rBool (!decide (i = j)) :=
  ez_bin (pe_cmpR op_ne ha hb (nomark _)) fun F H v w Q s h1 h2 z => by
    cases h1
    cases h2
    refine ⟨rfl, z _ F H (Gr.refl s) ?_⟩
    show V.bl _ = V.bl _
    rw [dec_int, Bool.beq_eq_decide_eq]
theorem dec_tx {l m : List Nat} : decide (V.str (tx l) = V.str (tx m)) = decide (l = m) := by
  by_cases h : l = m
  · subst h
    simp
  · rw [decide_eq_false h]
    exact decide_eq_false fun e => h (tx_inj (V.str.inj e))
theorem ev_eqT {i j : List Nat} (ha : EV X a Γ rTx i) (hb : EV X b Γ rTx j) : EV X (.Compare a [.Eq] [b] pos) Γ rBool (decide (i = j)) :=
  ez_bin (pe_cmpR op_eq ha hb (nomark _)) fun F H v w Q s h1 h2 z => by
    cases h1
    cases h2
    refine ⟨rfl, z _ F H (Gr.refl s) ?_⟩
    show V.bl _ = V.bl _
    rw [dec_tx]
theorem ev_neT {i j : List Nat} (ha : EV X a Γ rTx i) (hb : EV X b Γ rTx j) : EV X (.Compare a [.NotEq] [b] pos) Γ rBool (!decide (i = j)) :=
  ez_bin (pe_cmpR op_ne ha hb (nomark _)) fun F H v w Q s h1 h2 z => by
    cases h1
    cases h2
    refine ⟨rfl, z _ F H (Gr.refl s) ?_⟩
    show V.bl _ = V.bl _
    rw [dec_tx]
theorem ev_ltT {i j : List Nat} (ha : EV X a Γ rTx i) (hb : EV X b Γ rTx j) : EV X (.Compare a [.Lt] [b] pos) Γ rBool (decide (i < j)) :=
  ez_bin (pe_cmpR op_lt_str ha hb (nomark _)) fun F H v w Q s h1 h2 z => ⟨tx i, tx j, h1, h2, z _ F H (Gr.refl s) (by rw [tx_toList, tx_toList]; rfl)⟩
theorem ev_gtT {i j : List Nat} (ha : EV X a Γ rTx i) (hb : EV X b Γ rTx j) : EV X (.Compare a [.Gt] [b] pos) Γ rBool (decide (j < i)) :=
  ez_bin (pe_cmpR op_gt_str ha hb (nomark _)) fun F H v w Q s h1 h2 z => ⟨tx i, tx j, h1, h2, z _ F H (Gr.refl s) (by rw [tx_toList, tx_toList]; rfl)⟩
theorem ev_geT {i j : List Nat} (ha : EV X a Γ rTx i) (hb : EV X b Γ rTx j) : EV X (.Compare a [.GtE] [b] pos) Γ rBool (!decide (i < j)) :=
  ez_bin (pe_cmpR op_ge_str ha hb (nomark _)) fun F H v w Q s h1 h2 z => ⟨tx i, tx j, h1, h2, z _ F H (Gr.refl s) (by rw [tx_toList, tx_toList]; rfl)⟩
theorem ev_leT {i j : List Nat} (ha : EV X a Γ rTx i) (hb : EV X b Γ rTx j) : EV X (.Compare a [.LtE] [b] pos) Γ rBool (!decide (j < i)) :=
  ez_bin (pe_cmpR op_le_str ha hb (nomark _)) fun F H v w Q s h1 h2 z => ⟨tx i, tx j, h1, h2, z _ F H (Gr.refl s) (by rw [tx_toList, tx_toList]; rfl)⟩
/-- in, not in -/
theorem inV_tx {l : List Nat} : ∀ {K : Frag} {F : Hp} {vs : List V} {xs : List (List Nat)}, PL rTx K F vs xs → inV (.str (tx l)) vs = decide (l ∈ xs) ∧ vs.all flatV = true
  | _, _, _, _, .nil => ⟨by simp [inV], rfl⟩
  | _, _, _, x :: xs, .cons r t => by
    obtain ⟨i1, i2⟩ := inV_tx (l := l) t
    cases r
    refine ⟨?_, by simpa [flatV] using i2⟩
    unfold inV at i1 ⊢
    rw [List.any_cons, i1]
    show (tx x == tx l || decide (l ∈ xs)) = _
    by_cases h : l = x
    · subst h
      simp
    · have : (tx x == tx l) = false := beq_eq_false_iff_ne.mpr fun e => h (tx_inj e).symm
      simp [this, h]
theorem inV_int {l : Int} : ∀ {K : Frag} {F : Hp} {vs : List V} {xs : List Int}, PL rInt K F vs xs → inV (.int l) vs = decide (l ∈ xs) ∧ vs.all flatV = true
  | _, _, _, _, .nil => ⟨by simp [inV], rfl⟩
  | _, _, _, x :: xs, .cons r t => by
    obtain ⟨i1, i2⟩ := inV_int (l := l) t
    cases r
    refine ⟨?_, by simpa [flatV] using i2⟩
    unfold inV at i1 ⊢
    rw [List.any_cons, i1]
    show (x == l || decide (l ∈ xs)) = _
    by_cases h : l = x
    · subst h
      simp
    · have : (x == l) = false := beq_eq_false_iff_ne.mpr fun e => h e.symm
      simp [this, h]
theorem ev_inTL {i : List Nat} {xs : List (List Nat)} (ha : EV X a Γ rTx i) (hb : EL X b Γ rTx xs) (hm : behindInMarks .In b = false := by with_unfolding_all rfl) : EV X (.Compare a [.In] [b] pos) Γ rBool (decide (i ∈ xs)) :=
  ez_bin (pe_cmpR op_in_seq ha hb hm) fun F H v w Q s h1 ⟨l, vs, e, hl, p⟩ z => by
    cases h1
    obtain ⟨q1, q2⟩ := inV_tx (l := i) p
    exact ⟨l, vs, e, .inl hl, rfl, q2, by rw [q1]; exact z _ F H (Gr.refl s) rfl⟩
theorem ev_ninTL {i : List Nat} {xs : List (List Nat)} (ha : EV X a Γ rTx i) (hb : EL X b Γ rTx xs) (hm : behindInMarks .NotIn b = false := by with_unfolding_all rfl) : EV X (.Compare a [.NotIn] [b] pos) Γ rBool (!decide (i ∈ xs)) :=
  ez_bin (pe_cmpR op_notIn_seq ha hb hm) fun F H v w Q s h1 ⟨l, vs, e, hl, p⟩ z => by
    cases h1
    obtain ⟨q1, q2⟩ := inV_tx (l := i) p
    exact ⟨l, vs, e, .inl hl, rfl, q2, by simp only [if_true]; rw [q1]; exact z _ F H (Gr.refl s) rfl⟩
theorem ev_inTT {i : List Nat} {xs : List (List Nat)} (ha : EV X a Γ rTx i) (hb : EV X b Γ (rT rTx) xs) (hm : behindInMarks .In b = false := by with_unfolding_all rfl) : EV X (.Compare a [.In] [b] pos) Γ rBool (decide (i ∈ xs)) :=
  ez_bin (pe_cmpR op_in_seq ha hb hm) fun F H v w Q s h1 ⟨l, vs, e, hl, p⟩ z => by
    cases h1
    obtain ⟨q1, q2⟩ := inV_tx (l := i) p
    exact ⟨l, vs, e, .inr (SqT.same s hl), rfl, q2, by rw [q1]; exact z _ F H (Gr.refl s) rfl⟩
theorem ev_ninTT {i : List Nat} {xs : List (List Nat)} (ha : EV X a Γ rTx i) (hb : EV X b Γ (rT rTx) xs) (hm : behindInMarks .NotIn b = false := by with_unfolding_all rfl) : EV X (.Compare a [.NotIn] [b] pos) Γ rBool (!decide (i ∈ xs)) :=
  ez_bin (pe_cmpR op_notIn_seq ha hb hm) fun F H v w Q s h1 ⟨l, vs, e, hl, p⟩ z => by
    cases h1
    obtain ⟨q1, q2⟩ := inV_tx (l := i) p
    exact ⟨l, vs, e, .inr (SqT.same s hl), rfl, q2, by simp only [if_true]; rw [q1]; exact z _ F H (Gr.refl s) rfl⟩
/-- a sign in a text -/
theorem ev_inS {i : Nat} {xs : List Nat} (ha : EV X a Γ rTx [i]) (hb : EV X b Γ rTx xs) (hm : behindInMarks .In b = false := by with_unfolding_all rfl) : EV X (.Compare a [.In] [b] pos) Γ rBool (decide (i ∈ xs)) :=
  ez_bin (pe_cmpR op_in_sign ha hb hm) fun F H v w Q s h1 h2 z => ⟨i, tx xs, h1, h2, z _ F H (Gr.refl s) (by rw [tx_toList]; rfl)⟩
theorem ev_ninS {i : Nat} {xs : List Nat} (ha : EV X a Γ rTx [i]) (hb : EV X b Γ rTx xs) (hm : behindInMarks .NotIn b = false := by with_unfolding_all rfl) : EV X (.Compare a [.NotIn] [b] pos) Γ rBool (!decide (i ∈ xs)) :=
  ez_bin (pe_cmpR op_notIn_sign ha hb hm) fun F H v w Q s h1 h2 z => ⟨i, tx xs, h1, h2, z _ F H (Gr.refl s) (by rw [tx_toList]; rfl)⟩
theorem ev_inIL {i : Int} {xs : List Int} (ha : EV X a Γ rInt i) (hb : EL X b Γ rInt xs) (hm : behindInMarks .In b = false := by with_unfolding_all rfl) : EV X (.Compare a [.In] [b] pos) Γ rBool (decide (i ∈ xs)) :=
  ez_bin (pe_cmpR op_in_seq ha hb hm) fun F H v w Q s h1 ⟨l, vs, e, hl, p⟩ z => by
    cases h1
    obtain ⟨q1, q2⟩ := inV_int (l := i) p
    exact ⟨l, vs, e, .inl hl, rfl, q2, by rw [q1]; exact z _ F H (Gr.refl s) rfl⟩
theorem ev_inIT {i : Int} {xs : List Int} (ha : EV X a Γ rInt i) (hb : EV X b Γ (rT rInt) xs) (hm : behindInMarks .In b = false := by with_unfolding_all rfl) : EV X (.Compare a [.In] [b] pos) Γ rBool (decide (i ∈ xs)) :=
  ez_bin (pe_cmpR op_in_seq ha hb hm) fun F H v w Q s h1 ⟨l, vs, e, hl, p⟩ z => by
    cases h1
    obtain ⟨q1, q2⟩ := inV_int (l := i) p
    exact ⟨l, vs, e, .inr (SqT.same s hl), rfl, q2, by rw [q1]; exact z _ F H (Gr.refl s) rfl⟩
theorem ev_ninIT {i : Int} {xs : List Int} (ha : EV X a Γ rInt i) (hb : EV X b Γ (rT rInt) xs) (hm : behindInMarks .NotIn b = false := by with_unfolding_all rfl) : EV X (.Compare a [.NotIn] [b] pos) Γ rBool (!decide (i ∈ xs)) :=
  ez_bin (pe_cmpR op_notIn_seq ha hb hm) fun F H v w Q s h1 ⟨l, vs, e, hl, p⟩ z => by
    cases h1
    obtain ⟨q1, q2⟩ := inV_int (l := i) p
    exact ⟨l, vs, e, .inr (SqT.same s hl), rfl, q2, by simp only [if_true]; rw [q1]; exact z _ F H (Gr.refl s) rfl⟩

/-! ### tests -/
theorem EB.of {k : Bool} (h : EV X e Γ rBool k) (he : ∀ whole, isTrue e X.env whole = (do let v ← whole; standAt e.pos; holding [v] (truthy v)) := by intro _; rfl) : EB X e Γ k :=
  PT.imp (pt_val h he) fun σ H Q ⟨F0, H0, F, ok, q⟩ => ⟨F0, H0, F, ok, fun v F' H' g p => ⟨k, p, q F' H' g⟩⟩
theorem eb_cmp {k : Bool} {op : CmpOp} {r : R2} {P1 P2 : VP} (ho : OpR X (compareOp op) r) (ha : Ez X a Γ P1) (hb : Ez X b Γ P2) (hm : behindInMarks op b = false)
    (q : ∀ F H v w (Q : VK), Same F H → P1.p X.K F H v → P2.p X.K F H w → Q (.bl k) H → r v w H Q) : EB X (.Compare a [op] [b] pos) Γ k :=
  PT.imp (pt_cmpR ho ha hb hm) fun σ H Q ⟨F0, H0, F, ok, z⟩ => ⟨F0, H0, F, ok, fun v F1 H1 g1 p1 => ⟨F0, H0, F1, ok.grow g1, fun w F2 H2 g2 p2 =>
    q F2 H2 v w _ g2.sub (P1.mono g2 p1) p2 ⟨k, rfl, z F2 H2 (g1.trans g2)⟩⟩⟩
theorem eb_lt {i j : Int} (ha : EV X a Γ rInt i) (hb : EV X b Γ rInt j) : EB X (.Compare a [.Lt] [b] pos) Γ (decide (i < j)) := eb_cmp op_lt ha hb (nomark _) fun F H v w Q s h1 h2 z => ⟨i, j, h1, h2, z⟩
theorem eb_le {i j : Int} (ha : EV X a Γ rInt i) (hb : EV X b Γ rInt j) : EB X (.Compare a [.LtE] [b] pos) Γ (decide (i ≤ j)) := eb_cmp op_le ha hb (nomark _) fun F H v w Q s h1 h2 z => ⟨i, j, h1, h2, z⟩
theorem eb_gt {i j : Int} (ha : EV X a Γ rInt i) (hb : EV X b Γ rInt j) : EB X (.Compare a [.Gt] [b] pos) Γ (decide (j < i)) := eb_cmp op_gt ha hb (nomark _) fun F H v w Q s h1 h2 z => ⟨i, j, h1, h2, z⟩
theorem eb_ge {i j : Int} (ha : EV X a Γ rInt i) (hb : EV X b Γ rInt j) : EB X (.Compare a [.GtE] [b] pos) Γ (decide (j ≤ i)) := eb_cmp op_ge ha hb (nomark _) fun F H v w Q s h1 h2 z => ⟨i, j, h1, h2, z⟩
theorem eb_eqI {i j : Int} (ha : EV X a Γ rInt i) (hb : EV X b Γ rInt j) : EB X (.Compare a [.Eq] [b] pos) Γ (decide (i = j)) :=
  eb_cmp op_eq ha hb (nomark _) fun F H v w Q s h1 h2 z => by
    cases h1
    cases h2
    rw [← Bool.beq_eq_decide_eq, ← dec_int] at z
    exact ⟨rfl, z⟩
theorem eb_neI {i j : Int} (ha : EV X a Γ rInt i) (hb : EV X b Γ rInt j) : EB X (.Compare a [.NotEq] [b] pos) Γ (!decide (i = j)) :=
  eb_cmp op_ne ha hb (nomark _) fun F H v w Q s h1 h2 z => by
    cases h1
    cases h2
    rw [← Bool.beq_eq_decide_eq, ← dec_int] at z
    exact ⟨rfl, z⟩
theorem eb_eqT {i j : List Nat} (ha : EV X a Γ rTx i) (hb : EV X b Γ rTx j) : EB X (.Compare a [.Eq] [b] pos) Γ (decide (i = j)) :=
  eb_cmp op_eq ha hb (nomark _) fun F H v w Q s h1 h2 z => by
    cases h1
    cases h2
    rw [← dec_tx] at z
    exact ⟨rfl, z⟩
theorem eb_neT {i j : List Nat} (ha : EV X a Γ rTx i) (hb : EV X b Γ rTx j) : EB X (.Compare a [.NotEq] [b] pos) Γ (!decide (i = j)) :=
  eb_cmp op_ne ha hb (nomark _) fun F H v w Q s h1 h2 z => by
    cases h1
    cases h2
    rw [← dec_tx] at z
    exact ⟨rfl, z⟩
theorem eb_ltT {i j : List Nat} (ha : EV X a Γ rTx i) (hb : EV X b Γ rTx j) : EB X (.Compare a [.Lt] [b] pos) Γ (decide (i < j)) :=
  eb_cmp op_lt_str ha hb (nomark _) fun F H v w Q s h1 h2 z => ⟨tx i, tx j, h1, h2, by rw [tx_toList, tx_toList]; exact z⟩
theorem eb_gtT {i j : List Nat} (ha : EV X a Γ rTx i) (hb : EV X b Γ rTx j) : EB X (.Compare a [.Gt] [b] pos) Γ (decide (j < i)) :=
  eb_cmp op_gt_str ha hb (nomark _) fun F H v w Q s h1 h2 z => ⟨tx i, tx j, h1, h2, by rw [tx_toList, tx_toList]; exact z⟩
theorem eb_geT {i j : List Nat} (ha : EV X a Γ rTx i) (hb : EV X b Γ rTx j) : EB X (.Compare a [.GtE] [b] pos) Γ (!decide (i < j)) :=
  eb_cmp op_ge_str ha hb (nomark _) fun F H v w Q s h1 h2 z => ⟨tx i, tx j, h1, h2, by rw [tx_toList, tx_toList]; exact z⟩
theorem eb_leT {i j : List Nat} (ha : EV X a Γ rTx i) (hb : EV X b Γ rTx j) : EB X (.Compare a [.LtE] [b] pos) Γ (!decide (j < i)) :=
  eb_cmp op_le_str ha hb (nomark _) fun F H v w Q s h1 h2 z => ⟨tx i, tx j, h1, h2, by rw [tx_toList, tx_toList]; exact z⟩
theorem eb_inTL {i : List Nat} {xs : List (List Nat)} (ha : EV X a Γ rTx i) (hb : EL X b Γ rTx xs) (hm : behindInMarks .In b = false := by with_unfolding_all rfl) : EB X (.Compare a [.In] [b] pos) Γ (decide (i ∈ xs)) :=
  eb_cmp op_in_seq ha hb hm fun F H v w Q s h1 ⟨l, vs, e, hl, p⟩ z => by
    cases h1
    obtain ⟨q1, q2⟩ := inV_tx (l := i) p
    exact ⟨l, vs, e, .inl hl, rfl, q2, by rw [q1]; exact z⟩
theorem eb_ninTL {i : List Nat} {xs : List (List Nat)} (ha : EV X a Γ rTx i) (hb : EL X b Γ rTx xs) (hm : behindInMarks .NotIn b = false := by with_unfolding_all rfl) : EB X (.Compare a [.NotIn] [b] pos) Γ (!decide (i ∈ xs)) :=
  eb_cmp op_notIn_seq ha hb hm fun F H v w Q s h1 ⟨l, vs, e, hl, p⟩ z => by
    cases h1
    obtain ⟨q1, q2⟩ := inV_tx (l := i) p
    exact ⟨l, vs, e, .inl hl, rfl, q2, by simp only [if_true]; rw [q1]; exact z⟩
theorem eb_inTT {i : List Nat} {xs : List (List Nat)} (ha : EV X a Γ rTx i) (hb : EV X b Γ (rT rTx) xs) (hm : behindInMarks .In b = false := by with_unfolding_all rfl) : EB X (.Compare a [.In] [b] pos) Γ (decide (i ∈ xs)) :=
  eb_cmp op_in_seq ha hb hm fun F H v w Q s h1 ⟨l, vs, e, hl, p⟩ z => by
    cases h1
    obtain ⟨q1, q2⟩ := inV_tx (l := i) p
    exact ⟨l, vs, e, .inr (SqT.same s hl), rfl, q2, by rw [q1]; exact z⟩
theorem eb_ninTT {i : List Nat} {xs : List (List Nat)} (ha : EV X a Γ rTx i) (hb : EV X b Γ (rT rTx) xs) (hm : behindInMarks .NotIn b = false := by with_unfolding_all rfl) : EB X (.Compare a [.NotIn] [b] pos) Γ (!decide (i ∈ xs)) :=
  eb_cmp op_notIn_seq ha hb hm fun F H v w Q s h1 ⟨l, vs, e, hl, p⟩ z => by
    cases h1
    obtain ⟨q1, q2⟩ := inV_tx (l := i) p
    exact ⟨l, vs, e, .inr (SqT.same s hl), rfl, q2, by simp only [if_true]; rw [q1]; exact z⟩
theorem eb_inS {i : Nat} {xs : List Nat} (ha : EV X a Γ rTx [i]) (hb : EV X b Γ rTx xs) (hm : behindInMarks .In b = false := by with_unfolding_all rfl) : EB X (.Compare a [.In] [b] pos) Γ (decide (i ∈ xs)) :=
  eb_cmp op_in_sign ha hb hm fun F H v w Q s h1 h2 z => ⟨i, tx xs, h1, h2, by rw [tx_toList]; exact z⟩
theorem eb_ninS {i : Nat} {xs : List Nat} (ha : EV X a Γ rTx [i]) (hb : EV X b Γ rTx xs) (hm : behindInMarks .NotIn b = false := by with_unfolding_all rfl) : EB X (.Compare a [.NotIn] [b] pos) Γ (!decide (i ∈ xs)) :=
  eb_cmp op_notIn_sign ha hb hm fun F H v w Q s h1 h2 z => ⟨i, tx xs, h1, h2, by rw [tx_toList]; exact z⟩
theorem eb_not {k : Bool} (h : EB X a Γ k) : EB X (.UnaryOp .Not a pos) Γ (!k) :=
  PT.imp (pt_not h) fun σ H Q ⟨F0, H0, F, ok, q⟩ => ⟨F0, H0, F, ok, q⟩
theorem ev_not {k : Bool} (h : EV X a Γ rBool k) : EV X (.UnaryOp .Not a pos) Γ rBool (!k) :=
  PE.imp (pe_not h) fun σ H Q ⟨F0, H0, F, ok, q⟩ => ⟨F0, H0, F, ok, fun v F' H' g p => ⟨k, p, q _ F' H' g rfl⟩⟩
theorem pw_never {e : Expr} : PW X e (fun _ _ _ => False) := ⟨fun _ _ _ _ _ _ _ h => h.elim⟩
theorem pt_never {e : Expr} : PT X e (fun _ _ _ => False) := ⟨fun _ _ _ _ _ _ h => h.elim⟩
theorem pe_never {e : Expr} : PE X e (fun _ _ _ => False) := ⟨fun _ _ _ _ _ _ h => h.elim⟩
theorem EW.eb {k : Bool} (h : EW X e Γ k) : EB X e Γ k := h.pt
theorem ew_and1 {k : Bool} (h : EB X a Γ k) : EW X (.BoolOp .And [a] pos) Γ k := pw_and1 h
theorem ew_or1 {k : Bool} (h : EB X a Γ k) : EW X (.BoolOp .Or [a] pos) Γ k := pw_or1 h
theorem ew_and {p q : Bool} (ha : EB X a Γ p) (hb : p = true → EW X (.BoolOp .And (b :: es) pos) Γ q) : EW X (.BoolOp .And (a :: b :: es) pos) Γ (p && q) := by
  cases p with
  | true =>
    refine PW.imp (pw_and ha (hb rfl)) fun σ H Q ⟨F0, H0, F, ok, z⟩ => ⟨F0, H0, F, ok, fun F' H' g => ?_⟩
    exact iteT ⟨F0, H0, F', ok.grow g, fun F2 H2 g2 => z F2 H2 (g.trans g2)⟩
  | false =>
    refine PW.imp (pw_and ha pw_never) fun σ H Q ⟨F0, H0, F, ok, z⟩ => ⟨F0, H0, F, ok, fun F' H' g => ?_⟩
    exact iteF (z F' H' g)
theorem ew_or {p q : Bool} (ha : EB X a Γ p) (hb : p = false → EW X (.BoolOp .Or (b :: es) pos) Γ q) : EW X (.BoolOp .Or (a :: b :: es) pos) Γ (p || q) := by
  cases p with
  | false =>
    refine PW.imp (pw_or ha (hb rfl)) fun σ H Q ⟨F0, H0, F, ok, z⟩ => ⟨F0, H0, F, ok, fun F' H' g => ?_⟩
    exact iteF ⟨F0, H0, F', ok.grow g, fun F2 H2 g2 => z F2 H2 (g.trans g2)⟩
  | true =>
    refine PW.imp (pw_or ha pw_never) fun σ H Q ⟨F0, H0, F, ok, z⟩ => ⟨F0, H0, F, ok, fun F' H' g => ?_⟩
    exact iteT (z F' H' g)
theorem ev_one {op} {P : VP} (h : Ez X a Γ P) : Ez X (.BoolOp op [a] pos) Γ P := pe_one h
theorem ev_and {p q : Bool} (ha : EV X a Γ rBool p) (hb : p = true → EV X (.BoolOp .And (b :: es) pos) Γ rBool q) : EV X (.BoolOp .And (a :: b :: es) pos) Γ rBool (p && q) := by
  cases p with
  | true =>
    refine PE.imp (pe_and ha (hb rfl)) fun σ H Q ⟨F0, H0, F, ok, z⟩ => ⟨F0, H0, F, ok, fun v F' H' g h => ⟨true, h, ?_⟩⟩
    exact iteT ⟨F0, H0, F', ok.grow g, fun v F2 H2 g2 => z v F2 H2 (g.trans g2)⟩
  | false =>
    refine PE.imp (pe_and ha pe_never) fun σ H Q ⟨F0, H0, F, ok, z⟩ => ⟨F0, H0, F, ok, fun v F' H' g h => ⟨false, h, ?_⟩⟩
    exact iteF (z _ F' H' g rfl)
theorem ev_or {p q : Bool} (ha : EV X a Γ rBool p) (hb : p = false → EV X (.BoolOp .Or (b :: es) pos) Γ rBool q) : EV X (.BoolOp .Or (a :: b :: es) pos) Γ rBool (p || q) := by
  cases p with
  | false =>
    refine PE.imp (pe_or ha (hb rfl)) fun σ H Q ⟨F0, H0, F, ok, z⟩ => ⟨F0, H0, F, ok, fun v F' H' g h => ⟨false, h, ?_⟩⟩
    exact iteF ⟨F0, H0, F', ok.grow g, fun v F2 H2 g2 => z v F2 H2 (g.trans g2)⟩
  | true =>
    refine PE.imp (pe_or ha pe_never) fun σ H Q ⟨F0, H0, F, ok, z⟩ => ⟨F0, H0, F, ok, fun v F' H' g h => ⟨true, h, ?_⟩⟩
    exact iteT (z _ F' H' g rfl)
/-- a if t else b -/
theorem ev_ite {t : Expr} {p : Bool} {x y : α} (ht : EB X t Γ p) (ha : p = true → EV X a Γ c x) (hb : p = false → EV X b Γ c y) : EV X (.IfExp t a b pos) Γ c (if p = true then x else y) := by
  cases p with
  | true =>
    refine PE.imp (pe_ifExp ht (ha rfl) pe_never) fun σ H Q ⟨F0, H0, F, ok, z⟩ => ⟨F0, H0, F, ok, fun F' H' g => ?_⟩
    exact iteT ⟨F0, H0, F', ok.grow g, fun v F2 H2 g2 => z v F2 H2 (g.trans g2)⟩
  | false =>
    refine PE.imp (pe_ifExp ht pe_never (hb rfl)) fun σ H Q ⟨F0, H0, F, ok, z⟩ => ⟨F0, H0, F, ok, fun F' H' g => ?_⟩
    exact iteF ⟨F0, H0, F', ok.grow g, fun v F2 H2 g2 => z v F2 H2 (g.trans g2)⟩

/-! ### arguments, displays -/
theorem ea_nil : EA X [] Γ [] := PA.imp pa_nil fun σ H Q ⟨F0, H0, F, ok, q⟩ => q [] F H (Gr.refl ok.sub) .nil
theorem ea_cons {P : VP} {Ps : List VP} (h : Ez X e Γ P) (hr : EA X es Γ Ps) (hs : starEach (e :: es) X.env = (false, eval e X.env) :: starEach es X.env := by rfl) : EA X (e :: es) Γ (P :: Ps) :=
  PA.imp (pa_cons h hr hs) fun σ H Q ⟨F0, H0, F, ok, q⟩ => ⟨F0, H0, F, ok, fun v F1 H1 g1 p1 => ⟨F0, H0, F1, ok.grow g1, fun vs F2 H2 g2 p2 => q (v :: vs) F2 H2 (g1.trans g2) (.cons (P.mono g2 p1) p2)⟩⟩
theorem ea1 {P : VP} (h : Ez X e Γ P) (hs : starEach [e] X.env = [(false, eval e X.env)] := by rfl) : EA X [e] Γ [P] := ea_cons h ea_nil hs
theorem PL.of_vvs {K : Frag} {F H : Hp} : ∀ {vs : List V} {xs : List α}, Paired (fun v (P : VP) => P.p K F H v) vs (xs.map (vv c)) → PL c K F vs xs
  | _, [], .nil => .nil
  | _, _ :: _, .cons r t => .cons r (PL.of_vvs t)
/-- alike items -/
theorem ev_tup {xs : List α} {x1} (h : EA X es Γ (xs.map (vv c))) (hz : xs.length ≤ 16777216) : EV X (.Tuple es x1 pos) Γ (rT c) xs :=
  PE.imp (pe_tup h) fun σ H Q ⟨F0, H0, F, ok, q⟩ => ⟨F0, H0, F, ok, fun vs F1 H1 g1 p1 => by
    have pl := PL.of_vvs p1
    refine ⟨by rw [Paired.length pl, sizeLine_eq]; exact hz, fun p hp => q _ (upd F1 p (.tup vs)) _ (g1.trans (Gr.put g1.sub hp)) ?_⟩
    exact ⟨p, vs, rfl, SqT.of upd_same, PL.mono (same_upd (none_of_same g1.sub hp)) pl⟩⟩
theorem eo_lst {xs : List α} (h : EA X es Γ (xs.map (vv c))) (hz : xs.length ≤ 16777216) : EO X (.List es pos) Γ (.ol c xs) :=
  PE.imp (pe_lst h) fun σ H Q ⟨F0, H0, F, ok, q⟩ => ⟨F0, H0, F, ok, fun vs F1 H1 g1 p1 => by
    have pl := PL.of_vvs p1
    refine ⟨by rw [Paired.length pl, sizeLine_eq]; exact hz, fun p hp => q p _ F1 _ (g1.trans (Gr.hold g1.sub hp)) (none_of_same g1.sub hp) (none_of_same g1.hh hp) upd_same ⟨vs, rfl, pl⟩⟩⟩
theorem eo_nil : EO X (.List [] pos) Γ (.ol c []) := eo_lst (xs := []) ea_nil (Nat.zero_le _)
theorem ev_tup2 {x1} (ha : EV X a Γ c x) (hb : EV X b Γ d y) (hs : starEach [a, b] X.env = (false, eval a X.env) :: starEach [b] X.env := by rfl) (hs2 : starEach [b] X.env = [(false, eval b X.env)] := by rfl) :
    EV X (.Tuple [a, b] x1 pos) Γ (r2 c d) (x, y) :=
  PE.imp (pe_tup (ea_cons ha (ea1 hb hs2) hs)) fun σ H Q ⟨F0, H0, F, ok, q⟩ => ⟨F0, H0, F, ok, fun vs F1 H1 g1 p1 => by
    obtain _ | ⟨q1, p2⟩ := p1
    obtain _ | ⟨q2, p3⟩ := p2
    cases p3
    have s : ∀ (p : Addr) (o : HO), H1 p = none → Same F1 (upd F1 p o) := fun p o hp => same_upd (none_of_same g1.sub hp)
    exact ⟨by show 2 ≤ sizeLine; decide, fun p hp => q _ (upd F1 p (.tup _)) _ (g1.trans (Gr.put g1.sub hp)) ⟨p, _, _, rfl, SqT.of upd_same, c.mono (s p _ hp) q1, d.mono (s p _ hp) q2⟩⟩⟩
theorem ev_lst2 (ha : EV X a Γ c x) (hb : EV X b Γ d y) (hs : starEach [a, b] X.env = (false, eval a X.env) :: starEach [b] X.env := by rfl) (hs2 : starEach [b] X.env = [(false, eval b X.env)] := by rfl) :
    EV X (.List [a, b] pos) Γ (rL2 c d) (x, y) :=
  PE.imp (pe_lst (ea_cons ha (ea1 hb hs2) hs)) fun σ H Q ⟨F0, H0, F, ok, q⟩ => ⟨F0, H0, F, ok, fun vs F1 H1 g1 p1 => by
    obtain _ | ⟨q1, p2⟩ := p1
    obtain _ | ⟨q2, p3⟩ := p2
    cases p3
    have s : ∀ (p : Addr) (o : HO), H1 p = none → Same F1 (upd F1 p o) := fun p o hp => same_upd (none_of_same g1.sub hp)
    exact ⟨by show 2 ≤ sizeLine; decide, fun p hp => q _ (upd F1 p (.lst _)) _ (g1.trans (Gr.put g1.sub hp)) ⟨p, _, _, rfl, upd_same, c.mono (s p _ hp) q1, d.mono (s p _ hp) q2⟩⟩⟩
theorem ev_tup3 {x1} {f : Expr} {z : γ} (ha : EV X a Γ c x) (hb : EV X b Γ d y) (hf : EV X f Γ k z) (hs : starEach [a, b, f] X.env = (false, eval a X.env) :: starEach [b, f] X.env := by rfl) (hs2 : starEach [b, f] X.env = (false, eval b X.env) :: starEach [f] X.env := by rfl)
    (hs3 : starEach [f] X.env = [(false, eval f X.env)] := by rfl) : EV X (.Tuple [a, b, f] x1 pos) Γ (r3 c d k) (x, y, z) :=
  PE.imp (pe_tup (ea_cons ha (ea_cons hb (ea1 hf hs3) hs2) hs)) fun σ H Q ⟨F0, H0, F, ok, q⟩ => ⟨F0, H0, F, ok, fun vs F1 H1 g1 p1 => by
    obtain _ | ⟨q1, p2⟩ := p1
    obtain _ | ⟨q2, p3⟩ := p2
    obtain _ | ⟨q3, p4⟩ := p3
    cases p4
    have s : ∀ (p : Addr) (o : HO), H1 p = none → Same F1 (upd F1 p o) := fun p o hp => same_upd (none_of_same g1.sub hp)
    exact ⟨by show 3 ≤ sizeLine; decide, fun p hp => q _ (upd F1 p (.tup _)) _ (g1.trans (Gr.put g1.sub hp)) ⟨p, _, _, _, rfl, SqT.of upd_same, c.mono (s p _ hp) q1, d.mono (s p _ hp) q2, k.mono (s p _ hp) q3⟩⟩⟩
theorem ev_lst3 {f : Expr} {z : γ} (ha : EV X a Γ c x) (hb : EV X b Γ d y) (hf : EV X f Γ k z) (hs : starEach [a, b, f] X.env = (false, eval a X.env) :: starEach [b, f] X.env := by rfl) (hs2 : starEach [b, f] X.env = (false, eval b X.env) :: starEach [f] X.env := by rfl)
    (hs3 : starEach [f] X.env = [(false, eval f X.env)] := by rfl) : EV X (.List [a, b, f] pos) Γ (rL3 c d k) (x, y, z) :=
  PE.imp (pe_lst (ea_cons ha (ea_cons hb (ea1 hf hs3) hs2) hs)) fun σ H Q ⟨F0, H0, F, ok, q⟩ => ⟨F0, H0, F, ok, fun vs F1 H1 g1 p1 => by
    obtain _ | ⟨q1, p2⟩ := p1
    obtain _ | ⟨q2, p3⟩ := p2
    obtain _ | ⟨q3, p4⟩ := p3
    cases p4
    have s : ∀ (p : Addr) (o : HO), H1 p = none → Same F1 (upd F1 p o) := fun p o hp => same_upd (none_of_same g1.sub hp)
    exact ⟨by show 3 ≤ sizeLine; decide, fun p hp => q _ (upd F1 p (.lst _)) _ (g1.trans (Gr.put g1.sub hp)) ⟨p, _, _, _, rfl, upd_same, c.mono (s p _ hp) q1, d.mono (s p _ hp) q2, k.mono (s p _ hp) q3⟩⟩⟩
end
end Z

set_option Elab.async false
set_option linter.all false
set_option maxRecDepth 100000
set_option maxHeartbeats 4000000
/-! Zed: subscripts, built-ins, iterables, comprehensions. -/
namespace Z
open PySem PySem.Spec PyProof.Rows L2

section
variable {X : Cx} {Γ : List Sl} {a b e : Expr} {es : List Expr} {pos p : Pos} {α β γ : Type} {c : Rp α} {d : Rp β} {k : Rp γ} {x : α} {y : β} {P P' : VP}

/-! ### subscripts -/
theorem atI_nat' {α : Type} {xs : List α} {i : Int} {n : Nat} {y : α} (e : i = n) (h : xs[n]? = some y) : atI xs i = some y := by
  subst e
  exact atI_nat h
theorem atI_neg1 {α : Type} {xs : List α} {y : α} (h : xs.getLast? = some y) : atI xs (-1) = some y := by
  obtain ⟨ys, rfl⟩ := List.getLast?_eq_some_iff.mp h
  exact atI_last ys y
theorem atI_paired {R : V → α → Prop} {vs : List V} {xs : List α} {i : Int} {y : α} (p : Paired R vs xs) (h : atI xs i = some y) : ∃ v, atI vs i = some v ∧ R v y := by
  unfold atI at h ⊢
  rw [Paired.length p]
  cases e : ixN xs.length i with
  | none =>
    rw [e] at h
    cases h
  | some j =>
    rw [e] at h
    obtain ⟨v, h1, h2⟩ := Paired.get p (i := j) (y := y) h
    exact ⟨v, h1, h2⟩
theorem ev_ixL {xs : List α} {i : Int} (ha : EL X a Γ c xs) (hb : EV X b Γ rInt i) (h : atI xs i = some x) (hs : PlainIx b := by intro _ _; rfl) : EV X (.Subscript a b pos) Γ c x :=
  ez_bin (pe_ix ix_list ha hb hs) fun F H v w Q s ⟨l, vs, e, hl, pl⟩ h2 z => by
    obtain ⟨u, h3, h4⟩ := atI_paired pl h
    exact ⟨l, vs, i, u, e, h2, hl, h3, z u F H (Gr.refl s) h4⟩
theorem ev_ixT {xs : List α} {i : Int} (ha : EV X a Γ (rT c) xs) (hb : EV X b Γ rInt i) (h : atI xs i = some x) (hs : PlainIx b := by intro _ _; rfl) : EV X (.Subscript a b pos) Γ c x :=
  ez_bin (pe_ix ix_tup ha hb hs) fun F H v w Q s ⟨l, vs, e, hl, pl⟩ h2 z => by
    obtain ⟨u, h3, h4⟩ := atI_paired pl h
    exact ⟨l, vs, i, u, e, h2, SqT.same s hl, h3, z u F H (Gr.refl s) h4⟩
theorem ev_ixS {l : List Nat} {i : Int} {m : Nat} (ha : EV X a Γ rTx l) (hb : EV X b Γ rInt i) (h : atI l i = some m) (hz : l.length ≤ 16777216) (hs : PlainIx b := by intro _ _; rfl) : EV X (.Subscript a b pos) Γ rTx [m] :=
  ez_bin (pe_ix ix_str ha hb hs) fun F H v w Q s h1 h2 z => ⟨tx l, i, m, h1, h2, by rw [tx_len, sizeLine_eq]; exact hz, by rw [tx_toList]; exact h, z _ F H (Gr.refl s) rfl⟩
/-- tuples and lists of fixed form, by written places -/
theorem ev_fst2 {j pb} (ha : EV X a Γ (r2 c d) (x, y)) : EV X (.Subscript a (.Constant (.int 0) j pb) pos) Γ c x :=
  ez_bin (pe_ix ix_tup ha ev_int (fun _ _ => rfl)) fun F H v w Q s ⟨l, v1, v2, e, hl, q1, q2⟩ h2 z => ⟨l, [v1, v2], 0, v1, e, h2, SqT.same s hl, rfl, z _ F H (Gr.refl s) q1⟩
theorem ev_snd2 {j pb} (ha : EV X a Γ (r2 c d) (x, y)) : EV X (.Subscript a (.Constant (.int 1) j pb) pos) Γ d y :=
  ez_bin (pe_ix ix_tup ha ev_int (fun _ _ => rfl)) fun F H v w Q s ⟨l, v1, v2, e, hl, q1, q2⟩ h2 z => ⟨l, [v1, v2], 1, v2, e, h2, SqT.same s hl, rfl, z _ F H (Gr.refl s) q2⟩
theorem ev_fstL2 {j pb} (ha : EV X a Γ (rL2 c d) (x, y)) : EV X (.Subscript a (.Constant (.int 0) j pb) pos) Γ c x :=
  ez_bin (pe_ix ix_list ha ev_int (fun _ _ => rfl)) fun F H v w Q s ⟨l, v1, v2, e, hl, q1, q2⟩ h2 z => ⟨l, [v1, v2], 0, v1, e, h2, SqL.of (s _ _ hl), rfl, z _ F H (Gr.refl s) q1⟩
theorem ev_sndL2 {j pb} (ha : EV X a Γ (rL2 c d) (x, y)) : EV X (.Subscript a (.Constant (.int 1) j pb) pos) Γ d y :=
  ez_bin (pe_ix ix_list ha ev_int (fun _ _ => rfl)) fun F H v w Q s ⟨l, v1, v2, e, hl, q1, q2⟩ h2 z => ⟨l, [v1, v2], 1, v2, e, h2, SqL.of (s _ _ hl), rfl, z _ F H (Gr.refl s) q2⟩
theorem ev_i3 {z : γ} {j pb} (ha : EV X a Γ (r3 c d k) (x, y, z)) : EV X (.Subscript a (.Constant (.int 0) j pb) pos) Γ c x :=
  ez_bin (pe_ix ix_tup ha ev_int (fun _ _ => rfl)) fun F H v w Q s ⟨l, v1, v2, v3, e, hl, q1, q2, q3⟩ h2 z => ⟨l, [v1, v2, v3], 0, v1, e, h2, SqT.same s hl, rfl, z _ F H (Gr.refl s) q1⟩
theorem ev_j3 {z : γ} {j pb} (ha : EV X a Γ (r3 c d k) (x, y, z)) : EV X (.Subscript a (.Constant (.int 1) j pb) pos) Γ d y :=
  ez_bin (pe_ix ix_tup ha ev_int (fun _ _ => rfl)) fun F H v w Q s ⟨l, v1, v2, v3, e, hl, q1, q2, q3⟩ h2 z => ⟨l, [v1, v2, v3], 1, v2, e, h2, SqT.same s hl, rfl, z _ F H (Gr.refl s) q2⟩
theorem ev_k3 {z : γ} {j pb} (ha : EV X a Γ (r3 c d k) (x, y, z)) : EV X (.Subscript a (.Constant (.int 2) j pb) pos) Γ k z :=
  ez_bin (pe_ix ix_tup ha ev_int (fun _ _ => rfl)) fun F H v w Q s ⟨l, v1, v2, v3, e, hl, q1, q2, q3⟩ h2 z => ⟨l, [v1, v2, v3], 2, v3, e, h2, SqT.same s hl, rfl, z _ F H (Gr.refl s) q3⟩
theorem ev_iL3 {z : γ} {j pb} (ha : EV X a Γ (rL3 c d k) (x, y, z)) : EV X (.Subscript a (.Constant (.int 0) j pb) pos) Γ c x :=
  ez_bin (pe_ix ix_list ha ev_int (fun _ _ => rfl)) fun F H v w Q s ⟨l, v1, v2, v3, e, hl, q1, q2, q3⟩ h2 z => ⟨l, [v1, v2, v3], 0, v1, e, h2, SqL.of (s _ _ hl), rfl, z _ F H (Gr.refl s) q1⟩
theorem ev_jL3 {z : γ} {j pb} (ha : EV X a Γ (rL3 c d k) (x, y, z)) : EV X (.Subscript a (.Constant (.int 1) j pb) pos) Γ d y :=
  ez_bin (pe_ix ix_list ha ev_int (fun _ _ => rfl)) fun F H v w Q s ⟨l, v1, v2, v3, e, hl, q1, q2, q3⟩ h2 z => ⟨l, [v1, v2, v3], 1, v2, e, h2, SqL.of (s _ _ hl), rfl, z _ F H (Gr.refl s) q2⟩
theorem ev_kL3 {z : γ} {j pb} (ha : EV X a Γ (rL3 c d k) (x, y, z)) : EV X (.Subscript a (.Constant (.int 2) j pb) pos) Γ k z :=
  ez_bin (pe_ix ix_list ha ev_int (fun _ _ => rfl)) fun F H v w Q s ⟨l, v1, v2, v3, e, hl, q1, q2, q3⟩ h2 z => ⟨l, [v1, v2, v3], 2, v3, e, h2, SqL.of (s _ _ hl), rfl, z _ F H (Gr.refl s) q3⟩

/-! ### slices -/
def optI : Option Nat → Option Int
  | none => none
  | some n => some (n : Int)
def tPO (K : Frag) (Γ : List Sl) (o : Option Nat) : TO := fun σ H Q => ∃ F0 H0 F, Ok K F0 H0 F H σ Γ ∧ ∀ F' H', Gr F H F' H' → Q (optI o) H'
theorem so_none : PO X none (tPO X.K Γ none) := PO.imp po_none fun σ H Q ⟨F0, H0, F, ok, q⟩ => q F H (Gr.refl ok.sub)
theorem so {i : Int} (n : Nat) (h : EV X e Γ rInt i) (hi : i = n := by rfl) : PO X (some e) (tPO X.K Γ (some n)) :=
  PO.imp (po_some h) fun σ H Q ⟨F0, H0, F, ok, q⟩ => ⟨F0, H0, F, ok, fun v F' H' g pv => ⟨i, pv, by rw [hi]; exact q F' H' g⟩⟩
/-- the items of l[lo:hi] -/
def cut {α : Type} (l : List α) (lo hi : Option Nat) : List α := (l.take (hi.getD l.length)).drop (lo.getD 0)
theorem cut_eq {α : Type} (l : List α) (lo hi : Option Nat) : (l.drop (HT.sIx l.length 0 (optI lo))).take (HT.sIx l.length l.length (optI hi) - HT.sIx l.length 0 (optI lo)) = cut l lo hi := by
  have h1 : HT.sIx l.length 0 (optI lo) = min (lo.getD 0) l.length := by
    cases lo with
    | none => simp [optI, HT.sIx_none]
    | some n => exact HT.sIx_nat _ _ _
  have h2 : HT.sIx l.length l.length (optI hi) = min (hi.getD l.length) l.length := by
    cases hi with
    | none => simp [optI, HT.sIx_none]
    | some n => exact HT.sIx_nat _ _ _
  rw [h1, h2]
  unfold cut
  generalize lo.getD 0 = i
  generalize hi.getD l.length = j
  rw [← List.drop_take]
  apply List.ext_getElem?
  intro m
  simp only [List.getElem?_drop, List.getElem?_take]
  by_cases hi : i ≤ l.length
  · have : min i l.length = i := by omega
    rw [this]
    by_cases q : i + m < min j l.length
    · rw [if_pos q, if_pos (by omega)]
    · rw [if_neg q]
      by_cases q2 : i + m < j
      · rw [if_pos q2, List.getElem?_eq_none (by omega)]
      · rw [if_neg q2]
  · have e1 : l[i + m]? = none := List.getElem?_eq_none (by omega)
    rw [e1]
    have : min i l.length = l.length := by omega
    rw [this]
    have e2 : l[l.length + m]? = none := List.getElem?_eq_none (by omega)
    rw [e2]
    simp
theorem ev_cutS {l : List Nat} {lo hi : Option Expr} {i j : Option Nat} {p2 : Pos} (he : EV X e Γ rTx l) (hl : PO X lo (tPO X.K Γ i)) (hh : PO X hi (tPO X.K Γ j)) (hz : l.length ≤ 16777216) : EV X (.Subscript e (.Slice lo hi none p2) pos) Γ rTx (cut l i j) :=
  PE.imp (pe_slice sl_str he hl hh) fun σ H Q ⟨F0, H0, F, ok, q⟩ => ⟨F0, H0, F, ok, fun v F1 H1 g1 p1 => ⟨F0, H0, F1, ok.grow g1, fun F2 H2 g2 => ⟨F0, H0, F2, (ok.grow g1).grow g2, fun F3 H3 g3 =>
    ⟨tx l, p1, by rw [tx_len, sizeLine_eq]; exact hz, q _ F3 H3 ((g1.trans g2).trans g3) (by
      show V.str (cutS (tx l) (optI i) (optI j)) = V.str (tx (cut l i j))
      unfold cutS
      rw [tx_toList, tx_len, cut_eq]
      rfl)⟩⟩⟩⟩
theorem Paired.cut {R : V → α → Prop} {vs : List V} {xs : List α} (pl : Paired R vs xs) (i j : Option Nat) : Paired R (cutV vs (optI i) (optI j)) (cut xs i j) := by
  unfold cutV
  rw [cut_eq vs i j]
  unfold Z.cut
  rw [Paired.length pl]
  exact Paired.drop _ (Paired.take _ pl)
theorem ev_cutT {l : List α} {lo hi : Option Expr} {i j : Option Nat} {p2 : Pos} (he : EV X e Γ (rT c) l) (hl : PO X lo (tPO X.K Γ i)) (hh : PO X hi (tPO X.K Γ j)) : EV X (.Subscript e (.Slice lo hi none p2) pos) Γ (rT c) (cut l i j) :=
  PE.imp (pe_slice sl_tupA he hl hh) fun σ H Q ⟨F0, H0, F, ok, q⟩ => ⟨F0, H0, F, ok, fun v F1 H1 g1 ⟨t, vs, ev, ht, pl⟩ => ⟨F0, H0, F1, ok.grow g1, fun F2 H2 g2 => ⟨F0, H0, F2, (ok.grow g1).grow g2, fun F3 H3 g3 => by
    have gg := (g1.trans g2).trans g3
    have s3 : Same F1 F3 := g2.ff.trans g3.ff
    have pl3 := PL.mono s3 pl
    have pc := Paired.cut pl3 i j
    refine ⟨t, vs, ev, SqT.same (s3.trans g3.sub) ht, fun w => ?_, fun w q0 hq0 => ?_⟩
    · refine q _ F3 H3 gg ⟨t, vs, rfl, SqT.same s3 ht, ?_⟩
      have : cutV vs (optI i) (optI j) = vs := by
        unfold cutV
        rw [w.1, w.2]
        simp
      rw [this] at pc
      exact pc
    · exact q _ (upd F3 q0 (.tup (cutV vs (optI i) (optI j)))) _ (gg.trans (Gr.put g3.sub hq0)) ⟨q0, _, rfl, SqT.of upd_same, PL.mono (same_upd (none_of_same g3.sub hq0)) pc⟩⟩⟩⟩
theorem eo_cutL {l : List α} {lo hi : Option Expr} {i j : Option Nat} {p2 : Pos} (he : EL X e Γ c l) (hl : PO X lo (tPO X.K Γ i)) (hh : PO X hi (tPO X.K Γ j)) : EO X (.Subscript e (.Slice lo hi none p2) pos) Γ (.ol c (cut l i j)) :=
  PE.imp (pe_slice sl_list he hl hh) fun σ H Q ⟨F0, H0, F, ok, q⟩ => ⟨F0, H0, F, ok, fun v F1 H1 g1 ⟨t, vs, ev, ht, pl⟩ => ⟨F0, H0, F1, ok.grow g1, fun F2 H2 g2 => ⟨F0, H0, F2, (ok.grow g1).grow g2, fun F3 H3 g3 => by
    have gg := (g1.trans g2).trans g3
    have s3 : Same F1 F3 := g2.ff.trans g3.ff
    have pc := Paired.cut (PL.mono s3 pl) i j
    exact ⟨t, vs, ev, (g2.hh.trans g3.hh).seq ht, fun q0 hq0 => q q0 _ F3 _ (gg.trans (Gr.hold g3.sub hq0)) (none_of_same g3.sub hq0) (none_of_same gg.hh hq0) upd_same ⟨_, rfl, pc⟩⟩⟩⟩⟩

/-! ### built-ins -/
theorem ez_b1 {n : Str} {id : String} {r : List V → Hp → VK → Prop} {P1 P3 : VP} (hc : CallR X (.builtin id) r) (hm : X.mg n = none) (hv : bootBuiltins n = some (.builtin id)) (ha : Ez X a Γ P1)
    (q : ∀ F H v (Q : VK), Same F H → P1.p X.K F H v → (∀ u F' H', Gr F H F' H' → P3.p X.K F' H' u → Q u H') → r [v] H Q)
    (hg : Gl X n := by rfl) (hn : n ≠ "__name__" := by decide) (hdb : (n == ("__debug__" : Str)) = false := by decide) (hs : starEach [a] X.env = [(false, eval a X.env)] := by rfl) : Ez X (.Call (.Name n p) [a] [] pos) Γ P3 :=
  PE.imp (pe_callB hc hg hm hv (ea1 ha hs) hn hdb hs rfl) fun σ H Q ⟨F0, H0, F, ok, z⟩ => ⟨F0, H0, F, ok, fun vs F' H' g pa => by
    obtain _ | ⟨p1, p2⟩ := pa
    cases p2
    exact q F' H' _ Q g.sub p1 fun u F2 H2 g2 p3 => z u F2 H2 (g.trans g2) p3⟩
theorem eo_b1 {n : Str} {id : String} {r : List V → Hp → VK → Prop} {P1 : VP} {s : Sl} (hc : CallR X (.builtin id) r) (hm : X.mg n = none) (hv : bootBuiltins n = some (.builtin id)) (ha : Ez X a Γ P1)
    (q : ∀ F H v (Q : VK), Same F H → P1.p X.K F H v → (∀ l ho F' H', Gr F H F' H' → F' l = none → H l = none → H' l = some ho → celO X.K F' s ho → Q (.ref l) H') → r [v] H Q)
    (hg : Gl X n := by rfl) (hn : n ≠ "__name__" := by decide) (hdb : (n == ("__debug__" : Str)) = false := by decide) (hs : starEach [a] X.env = [(false, eval a X.env)] := by rfl) : EO X (.Call (.Name n p) [a] [] pos) Γ s :=
  PE.imp (pe_callB hc hg hm hv (ea1 ha hs) hn hdb hs rfl) fun σ H Q ⟨F0, H0, F, ok, z⟩ => ⟨F0, H0, F, ok, fun vs F' H' g pa => by
    obtain _ | ⟨p1, p2⟩ := pa
    cases p2
    exact q F' H' _ Q g.sub p1 fun l ho F2 H2 g2 hF hl hH p3 => z l ho F2 H2 (g.trans g2) hF (none_of_same g.hh hl) hH p3⟩
theorem ez_t1 {n : Str} {id : String} {r : List V → Hp → VK → Prop} {P1 P3 : VP} (hc : CallR X (.type id) r) (hm : X.mg n = none) (hv : bootBuiltins n = some (.type id)) (ha : Ez X a Γ P1)
    (q : ∀ F H v (Q : VK), Same F H → P1.p X.K F H v → (∀ u F' H', Gr F H F' H' → P3.p X.K F' H' u → Q u H') → r [v] H Q)
    (hg : Gl X n := by rfl) (hn : n ≠ "__name__" := by decide) (hdb : (n == ("__debug__" : Str)) = false := by decide) (hs : starEach [a] X.env = [(false, eval a X.env)] := by rfl) : Ez X (.Call (.Name n p) [a] [] pos) Γ P3 :=
  PE.imp (pe_callTy hc hg hm hv (ea1 ha hs) hn hdb hs rfl) fun σ H Q ⟨F0, H0, F, ok, z⟩ => ⟨F0, H0, F, ok, fun vs F' H' g pa => by
    obtain _ | ⟨p1, p2⟩ := pa
    cases p2
    exact q F' H' _ Q g.sub p1 fun u F2 H2 g2 p3 => z u F2 H2 (g.trans g2) p3⟩
theorem eo_t1 {n : Str} {id : String} {r : List V → Hp → VK → Prop} {P1 : VP} {s : Sl} (hc : CallR X (.type id) r) (hm : X.mg n = none) (hv : bootBuiltins n = some (.type id)) (ha : Ez X a Γ P1)
    (q : ∀ F H v (Q : VK), Same F H → P1.p X.K F H v → (∀ l ho F' H', Gr F H F' H' → F' l = none → H l = none → H' l = some ho → celO X.K F' s ho → Q (.ref l) H') → r [v] H Q)
    (hg : Gl X n := by rfl) (hn : n ≠ "__name__" := by decide) (hdb : (n == ("__debug__" : Str)) = false := by decide) (hs : starEach [a] X.env = [(false, eval a X.env)] := by rfl) : EO X (.Call (.Name n p) [a] [] pos) Γ s :=
  PE.imp (pe_callTy hc hg hm hv (ea1 ha hs) hn hdb hs rfl) fun σ H Q ⟨F0, H0, F, ok, z⟩ => ⟨F0, H0, F, ok, fun vs F' H' g pa => by
    obtain _ | ⟨p1, p2⟩ := pa
    cases p2
    exact q F' H' _ Q g.sub p1 fun l ho F2 H2 g2 hF hl hH p3 => z l ho F2 H2 (g.trans g2) hF (none_of_same g.hh hl) hH p3⟩
theorem ez_b2 {n : Str} {id : String} {r : List V → Hp → VK → Prop} {P1 P2 P3 : VP} (hc : CallR X (.builtin id) r) (hm : X.mg n = none) (hv : bootBuiltins n = some (.builtin id)) (ha : Ez X a Γ P1) (hb : Ez X b Γ P2)
    (q : ∀ F H v w (Q : VK), Same F H → P1.p X.K F H v → P2.p X.K F H w → (∀ u F' H', Gr F H F' H' → P3.p X.K F' H' u → Q u H') → r [v, w] H Q)
    (hg : Gl X n := by rfl) (hn : n ≠ "__name__" := by decide) (hdb : (n == ("__debug__" : Str)) = false := by decide) (hs : starEach [a, b] X.env = (false, eval a X.env) :: starEach [b] X.env := by rfl) (hs2 : starEach [b] X.env = [(false, eval b X.env)] := by rfl)
    (hpl : (backTo pos (starEach [b] X.env)).any (·.1) = false := by rfl) : Ez X (.Call (.Name n p) [a, b] [] pos) Γ P3 :=
  PE.imp (pe_callB hc hg hm hv (ea_cons ha (ea1 hb hs2) hs) hn hdb hs hpl) fun σ H Q ⟨F0, H0, F, ok, z⟩ => ⟨F0, H0, F, ok, fun vs F' H' g pa => by
    obtain _ | ⟨p1, p2⟩ := pa
    obtain _ | ⟨p2, p3⟩ := p2
    cases p3
    exact q F' H' _ _ Q g.sub p1 p2 fun u F2 H2 g2 p3 => z u F2 H2 (g.trans g2) p3⟩

theorem ev_lenL {xs : List α} (hm : X.mg "len" = none) (ha : EL X a Γ c xs) (hg : Gl X "len" := by rfl) (hs : starEach [a] X.env = [(false, eval a X.env)] := by rfl) : EV X (.Call (.Name "len" p) [a] [] pos) Γ rInt xs.length :=
  ez_b1 call_len_seq hm boot_len ha (fun F H v Q s ⟨l, vs, e, hl, pl⟩ z => ⟨l, vs, by rw [e], .inl hl, by rw [Paired.length pl]; exact z _ F H (Gr.refl s) rfl⟩) hg (by decide) (by decide) hs
theorem ev_lenT {xs : List α} (hm : X.mg "len" = none) (ha : EV X a Γ (rT c) xs) (hg : Gl X "len" := by rfl) (hs : starEach [a] X.env = [(false, eval a X.env)] := by rfl) : EV X (.Call (.Name "len" p) [a] [] pos) Γ rInt xs.length :=
  ez_b1 call_len_seq hm boot_len ha (fun F H v Q s ⟨l, vs, e, hl, pl⟩ z => ⟨l, vs, by rw [e], .inr (SqT.same s hl), by rw [Paired.length pl]; exact z _ F H (Gr.refl s) rfl⟩) hg (by decide) (by decide) hs
theorem ev_lenS {l : List Nat} (hm : X.mg "len" = none) (ha : EV X a Γ rTx l) (hz : l.length ≤ 16777216) (hg : Gl X "len" := by rfl) (hs : starEach [a] X.env = [(false, eval a X.env)] := by rfl) : EV X (.Call (.Name "len" p) [a] [] pos) Γ rInt l.length :=
  ez_b1 call_len_str hm boot_len ha (fun F H v Q s h z => ⟨tx l, by rw [show v = _ from h], by rw [tx_len, sizeLine_eq]; exact hz, by rw [tx_len]; exact z _ F H (Gr.refl s) rfl⟩) hg (by decide) (by decide) hs
theorem ev_intI {i : Int} (hm : X.mg "int" = none) (ha : EV X a Γ rInt i) (hg : Gl X "int" := by rfl) (hs : starEach [a] X.env = [(false, eval a X.env)] := by rfl) : EV X (.Call (.Name "int" p) [a] [] pos) Γ rInt i :=
  ez_t1 call_int1 hm boot_int ha (fun F H v Q s h z => .inl ⟨i, by rw [show v = _ from h], z _ F H (Gr.refl s) rfl⟩) hg (by decide) (by decide) hs
theorem ev_abs {i : Int} (hm : X.mg "abs" = none) (ha : EV X a Γ rInt i) (hg : Gl X "abs" := by rfl) (hs : starEach [a] X.env = [(false, eval a X.env)] := by rfl) : EV X (.Call (.Name "abs" p) [a] [] pos) Γ rInt (i.natAbs : Int) :=
  ez_b1 call_abs hm (by decide +kernel) ha (fun F H v Q s h z => ⟨i, by rw [show v = _ from h], z _ F H (Gr.refl s) (by
    show V.int _ = V.int _
    congr 1
    split <;> omega)⟩) hg (by decide) (by decide) hs
theorem ev_max2 {i j : Int} (hc : X.calm = true) (hm : X.mg "max" = none) (ha : EV X a Γ rInt i) (hb : EV X b Γ rInt j) (hg : Gl X "max" := by rfl) (hs : starEach [a, b] X.env = (false, eval a X.env) :: starEach [b] X.env := by rfl) (hs2 : starEach [b] X.env = [(false, eval b X.env)] := by rfl)
    (hpl : (backTo pos (starEach [b] X.env)).any (·.1) = false := by rfl) : EV X (.Call (.Name "max" p) [a, b] [] pos) Γ rInt (max i j) :=
  ez_b2 (call_max2 hc) hm (by decide +kernel) ha hb (fun F H v w Q s h1 h2 z => ⟨i, j, by rw [show v = _ from h1, show w = _ from h2], z _ F H (Gr.refl s) (by
    show V.int _ = V.int _
    congr 1
    split <;> omega)⟩) hg (by decide) (by decide) hs hs2 hpl
theorem ev_min2 {i j : Int} (hc : X.calm = true) (hm : X.mg "min" = none) (ha : EV X a Γ rInt i) (hb : EV X b Γ rInt j) (hg : Gl X "min" := by rfl) (hs : starEach [a, b] X.env = (false, eval a X.env) :: starEach [b] X.env := by rfl) (hs2 : starEach [b] X.env = [(false, eval b X.env)] := by rfl)
    (hpl : (backTo pos (starEach [b] X.env)).any (·.1) = false := by rfl) : EV X (.Call (.Name "min" p) [a, b] [] pos) Γ rInt (min i j) :=
  ez_b2 (call_min2 hc) hm (by decide +kernel) ha hb (fun F H v w Q s h1 h2 z => ⟨i, j, by rw [show v = _ from h1, show w = _ from h2], z _ F H (Gr.refl s) (by
    show V.int _ = V.int _
    congr 1
    split <;> omega)⟩) hg (by decide) (by decide) hs hs2 hpl
theorem PL.ints {K : Frag} {F : Hp} {vs : List V} {ns : List Int} (h : PL rInt K F vs ns) : vs = ns.map V.int := Paired.map_eq (fun _ _ e => e) h
theorem PL.bls {K : Frag} {F : Hp} {vs : List V} {ns : List Bool} (h : PL rBool K F vs ns) : vs = ns.map V.bl := Paired.map_eq (fun _ _ e => e) h
theorem PL.txs {K : Frag} {F : Hp} {vs : List V} {ns : List (List Nat)} (h : PL rTx K F vs ns) : vs = (ns.map tx).map V.str := by
  rw [List.map_map]
  exact Paired.map_eq (fun _ _ e => e) h
theorem PL.of_ints {K : Frag} {F : Hp} (ns : List Int) : PL rInt K F (ns.map V.int) ns := Paired.of_map (f := V.int) (fun _ => rfl) ns
theorem PL.of_txs {K : Frag} {F : Hp} (ns : List (List Nat)) : PL rTx K F ((ns.map tx).map V.str) ns := by
  rw [List.map_map]
  exact Paired.of_map (f := V.str ∘ tx) (fun _ => rfl) ns
theorem ev_sum {ns : List Int} (hc : X.calm = true) (hm : X.mg "sum" = none) (ha : EL X a Γ rInt ns) (hg : Gl X "sum" := by rfl) (hs : starEach [a] X.env = [(false, eval a X.env)] := by rfl) : EV X (.Call (.Name "sum" p) [a] [] pos) Γ rInt ns.sum :=
  ez_b1 (cr_sum hc) hm (by decide +kernel) ha (fun F H v Q s ⟨l, vs, e, hl, pl⟩ z => ⟨l, ns, by rw [e], by rw [← PL.ints pl]; exact hl, z _ F H (Gr.refl s) rfl⟩) hg (by decide) (by decide) hs
/-- tuple(xs), list(xs) -/
theorem ev_tupL {xs : List α} (hm : X.mg "tuple" = none) (ha : EL X a Γ c xs) (hg : Gl X "tuple" := by rfl) (hs : starEach [a] X.env = [(false, eval a X.env)] := by rfl) : EV X (.Call (.Name "tuple" p) [a] [] pos) Γ (rT c) xs :=
  ez_t1 call_tuple_of hm (by decide +kernel) ha (fun F H v Q s ⟨l, vs, e, hl, pl⟩ z => ⟨l, vs, by rw [e], .inl ⟨hl, fun t ht => z _ (upd F t (.tup vs)) _ (Gr.put s ht) ⟨t, vs, rfl, SqT.of upd_same, PL.mono (same_upd (none_of_same s ht)) pl⟩⟩⟩) hg (by decide) (by decide) hs
theorem ev_tupT {xs : List α} (hm : X.mg "tuple" = none) (ha : EV X a Γ (rT c) xs) (hg : Gl X "tuple" := by rfl) (hs : starEach [a] X.env = [(false, eval a X.env)] := by rfl) : EV X (.Call (.Name "tuple" p) [a] [] pos) Γ (rT c) xs :=
  ez_t1 call_tuple_of hm (by decide +kernel) ha (fun F H v Q s ⟨l, vs, e, hl, pl⟩ z => ⟨l, vs, by rw [e], .inr ⟨SqT.same s hl, z _ F _ (Gr.refl s) ⟨l, vs, rfl, hl, pl⟩⟩⟩) hg (by decide) (by decide) hs
theorem eo_listL {xs : List α} (hm : X.mg "list" = none) (ha : EL X a Γ c xs) (hg : Gl X "list" := by rfl) (hs : starEach [a] X.env = [(false, eval a X.env)] := by rfl) : EO X (.Call (.Name "list" p) [a] [] pos) Γ (.ol c xs) :=
  eo_t1 call_list_of hm (by decide +kernel) ha (fun F H v Q s ⟨l, vs, e, hl, pl⟩ z => ⟨l, vs, by rw [e], .inl hl, fun t ht => z t _ F _ (Gr.hold s ht) (none_of_same s ht) ht upd_same ⟨vs, rfl, pl⟩⟩) hg (by decide) (by decide) hs
theorem eo_listT {xs : List α} (hm : X.mg "list" = none) (ha : EV X a Γ (rT c) xs) (hg : Gl X "list" := by rfl) (hs : starEach [a] X.env = [(false, eval a X.env)] := by rfl) : EO X (.Call (.Name "list" p) [a] [] pos) Γ (.ol c xs) :=
  eo_t1 call_list_of hm (by decide +kernel) ha (fun F H v Q s ⟨l, vs, e, hl, pl⟩ z => ⟨l, vs, by rw [e], .inr (SqT.same s hl), fun t ht => z t _ F _ (Gr.hold s ht) (none_of_same s ht) ht upd_same ⟨vs, rfl, pl⟩⟩) hg (by decide) (by decide) hs
/-- sorted -/
def srtT (l : List (List Nat)) : List (List Nat) := l.mergeSort fun a b => decide (a ≤ b)
theorem srtT_perm (l : List (List Nat)) : (srtT l).Perm l := List.mergeSort_perm _ _
theorem srtT_pw (l : List (List Nat)) : (srtT l).Pairwise (· ≤ ·) := by
  have h := List.pairwise_mergeSort (le := fun a b : List Nat => decide (a ≤ b)) (fun a b c h1 h2 => decide_eq_true (List.le_trans (of_decide_eq_true h1) (of_decide_eq_true h2)))
    (fun a b => by
      rcases List.le_total a b with h | h
      · simp [h]
      · simp [h]) l
  exact h.imp fun h => of_decide_eq_true h
theorem srtT_uniq {l m : List (List Nat)} (h : m.Perm l) (s : m.Pairwise (· ≤ ·)) : m = srtT l :=
  List.Perm.eq_of_pairwise (le := (· ≤ ·)) (fun _ _ _ _ h1 h2 => List.le_antisymm h1 h2) s (srtT_pw l) (h.trans (srtT_perm l).symm)
theorem srtT_of {l : List (List Nat)} (s : l.Pairwise (· ≤ ·)) : srtT l = l := (srtT_uniq (List.Perm.refl l) s).symm
theorem srtT_eq {l m : List (List Nat)} (h : l.Perm m) : srtT l = srtT m := srtT_uniq ((srtT_perm l).trans h) (srtT_pw l)
theorem srtT_len (l : List (List Nat)) : (srtT l).length = l.length := (srtT_perm l).length_eq
theorem srtT_mem {l : List (List Nat)} {x : List Nat} : x ∈ srtT l ↔ x ∈ l := (srtT_perm l).mem_iff
theorem ltCps_iff : ∀ (a b : List Nat), ltCps a b = decide (a < b)
  | [], [] => by simp [ltCps]
  | [], _ :: _ => by simp [ltCps]
  | _ :: _, [] => by simp [ltCps]
  | x :: xs, y :: ys => by
    have ih := ltCps_iff xs ys
    unfold ltCps
    rw [ih]
    simp only [List.cons_lt_cons_iff]
    by_cases h : x < y
    · simp [h]
    · by_cases e : x = y
      · subst e
        simp
      · simp [h, e]
theorem rising_pw : ∀ (xs : List (List Nat)) (q : List Nat), PyProof.Rows.risingS (tx q) (xs.map tx) = true → (q :: xs).Pairwise (· ≤ ·)
  | [], q, _ => by simp
  | x :: xs, q, h => by
    have h' : (!ltCps (tx x).cps.toList (tx q).cps.toList && PyProof.Rows.risingS (tx x) (xs.map tx)) = true := h
    rw [tx_toList, tx_toList, Bool.and_eq_true] at h'
    have ih := rising_pw xs x h'.2
    have le : q ≤ x := by
      have := h'.1
      rw [ltCps_iff] at this
      simpa using this
    refine List.pairwise_cons.mpr ⟨fun y hy => ?_, ih⟩
    rcases List.mem_cons.mp hy with e | hy
    · subst e
      exact le
    · exact List.le_trans le ((List.pairwise_cons.mp ih).1 y hy)
theorem sortedS_pw : ∀ {xs : List (List Nat)}, PyProof.Rows.sortedS (xs.map tx) = true → xs.Pairwise (· ≤ ·)
  | [], _ => .nil
  | x :: xs, h => rising_pw xs x h
theorem map_tx_of (ys : List Str) : (ys.map fun s => s.cps.toList).map tx = ys := by
  rw [List.map_map]
  have : (tx ∘ fun s : Str => s.cps.toList) = id := by
    funext s
    exact tx_of s
  rw [this, List.map_id]
theorem perm_of_tx {l m : List (List Nat)} (h : (l.map tx).Perm (m.map tx)) : l.Perm m := by
  have e := h.map fun s : Str => s.cps.toList
  rw [List.map_map, List.map_map] at e
  have : ((fun s : Str => s.cps.toList) ∘ tx) = id := by
    funext s
    exact tx_toList s
  rw [this, List.map_id, List.map_id] at e
  exact e
theorem eo_sortT {xs : List (List Nat)} (hm : X.mg "sorted" = none) (ha : EL X a Γ rTx xs) (hz : xs.length < 64) (hg : Gl X "sorted" := by rfl) (hs : starEach [a] X.env = [(false, eval a X.env)] := by rfl) : EO X (.Call (.Name "sorted" p) [a] [] pos) Γ (.ol rTx (srtT xs)) :=
  eo_b1 cr_sortedS hm (by decide +kernel) ha (fun F H v Q s ⟨l, vs, e, hl, pl⟩ z => ⟨l, xs.map tx, by rw [e], by rw [← PL.txs pl]; exact hl, by rw [List.length_map]; exact hz, fun ys t hp hs' ht => by
    have ey := map_tx_of ys
    generalize (ys.map fun s : Str => s.cps.toList) = zs at ey
    subst ey
    have := srtT_uniq (perm_of_tx hp) (sortedS_pw hs')
    subst this
    exact z t _ F _ (Gr.hold s ht) (none_of_same s ht) ht upd_same ⟨_, rfl, PL.of_txs _⟩⟩) hg (by decide) (by decide) hs
def srtI (l : List Int) : List Int := l.mergeSort fun a b => decide (a ≤ b)
theorem srtI_perm (l : List Int) : (srtI l).Perm l := List.mergeSort_perm _ _
theorem srtI_pw (l : List Int) : (srtI l).Pairwise (· ≤ ·) := by
  have h := List.pairwise_mergeSort (le := fun a b : Int => decide (a ≤ b)) (fun a b c h1 h2 => decide_eq_true (Int.le_trans (of_decide_eq_true h1) (of_decide_eq_true h2)))
    (fun a b => by
      rcases Int.le_total a b with h | h
      · simp [h]
      · simp [h]) l
  exact h.imp fun h => of_decide_eq_true h
theorem srtI_uniq {l m : List Int} (h : m.Perm l) (s : m.Pairwise (· ≤ ·)) : m = srtI l :=
  List.Perm.eq_of_pairwise (le := (· ≤ ·)) (fun _ _ _ _ h1 h2 => Int.le_antisymm h1 h2) s (srtI_pw l) (h.trans (srtI_perm l).symm)
theorem eo_sortI {xs : List Int} (hm : X.mg "sorted" = none) (ha : EL X a Γ rInt xs) (hg : Gl X "sorted" := by rfl) (hs : starEach [a] X.env = [(false, eval a X.env)] := by rfl) : EO X (.Call (.Name "sorted" p) [a] [] pos) Γ (.ol rInt (srtI xs)) :=
  eo_b1 cr_sortedI hm (by decide +kernel) ha (fun F H v Q s ⟨l, vs, e, hl, pl⟩ z => ⟨l, xs, by rw [e], by rw [← PL.ints pl]; exact hl, fun ys t hp hs' ht => by
    have := srtI_uniq hp hs'
    subst this
    exact z t _ F _ (Gr.hold s ht) (none_of_same s ht) ht upd_same ⟨_, rfl, PL.of_ints _⟩⟩) hg (by decide) (by decide) hs
/-- sep.join(list of texts) -/
def joinT (sep : List Nat) : List (List Nat) → List Nat
  | [] => []
  | [x] => x
  | x :: r => x ++ (sep ++ joinT sep r)
theorem join_tx (sep : List Nat) : ∀ xs : List (List Nat), Str.join (tx sep) (xs.map tx) = tx (joinT sep xs)
  | [] => rfl
  | [x] => rfl
  | x :: y :: r => by
    have ih := join_tx sep (y :: r)
    show tx x ++ tx sep ++ Str.join (tx sep) ((y :: r).map tx) = tx (x ++ (sep ++ joinT sep (y :: r)))
    rw [ih, tx_app, tx_app, List.append_assoc]
theorem joinT_nil : ∀ xs : List (List Nat), joinT [] xs = xs.flatten
  | [] => rfl
  | [x] => by simp [joinT]
  | x :: y :: r => by
    have ih := joinT_nil (y :: r)
    show x ++ ([] ++ joinT [] (y :: r)) = _
    rw [ih]
    simp
end
end Z

set_option Elab.async false
set_option linter.all false
set_option maxRecDepth 100000
set_option maxHeartbeats 4000000
/-! Zed: statements, loops, comprehensions, defs. -/
namespace Z
open PySem PySem.Spec PyProof.Rows L2

/-! ### what is walked -/
def YZ {α : Type} (K : Frag) (F1 : Hp) (c : Rp α) (xs : List α) : Nat → Hp → V → Hp → Prop := fun i H v H2 => ∀ F, Same F1 F → Same F H → ∃ F2 y, Gr F H F2 H2 ∧ xs[i]? = some y ∧ c.r K F2 v y
def tIT {α : Type} (K : Frag) (Γ : List Sl) (c : Rp α) (xs : List α) : TI := fun σ H R => ∃ F0 H0 F, Ok K F0 H0 F H σ Γ ∧ ∀ J F' H', Gr F H F' H' → Walk J xs.length (Same F') (YZ K F' c xs) → R J H'
abbrev IT (X : Cx) (tg e : Expr) (Γ : List Sl) {α : Type} (c : Rp α) (xs : List α) : Prop := PI X tg e (tIT X.K Γ c xs)
/-- a target: js the slots that it stores, g what becomes of the slots -/
def tGZ {α : Type} (K : Frag) (c : Rp α) (js : List Nat) (g : List Sl → α → List Sl) : TG := fun v σ H Q => ∃ F0 H0 F Γ y, Ok K F0 H0 F H σ Γ ∧ c.r K F v y ∧
  ∀ σ', Ok K F0 H0 F H σ' (g Γ y) → (σ'.length = σ.length ∧ ∀ i, i ∉ js → σ'[i]? = σ[i]?) → Q σ' H
abbrev GZ (X : Cx) (tg : Expr) {α : Type} (c : Rp α) (js : List Nat) (g : List Sl → α → List Sl) : Prop := PG X tg (tGZ X.K c js g)

section
variable {X : Cx} {Γ : List Sl} {a b e tg iter : Expr} {es : List Expr} {pos p : Pos} {α β γ : Type} {c : Rp α} {d : Rp β} {k : Rp γ} {x : α} {y : β} {xs : List α}
theorem YZ.at {K : Frag} {F1 : Hp} {vs : List V} (pl : PL c K F1 vs xs) {i : Nat} {H : Hp} {v : V} {H2 : Hp} (h : H2 = H ∧ vs[i]? = some v) : YZ K F1 c xs i H v H2 := fun F s1 s2 => by
  obtain ⟨e, hv⟩ := h
  subst e
  obtain ⟨y, h1, h2⟩ := Paired.getL pl hv
  exact ⟨F, y, Gr.refl s2, h1, c.mono s1 h2⟩
theorem it_L (h : EV X e Γ (rL c) xs) : IT X tg e Γ c xs :=
  PI.imp (pi_list h) fun σ H R ⟨F0, H0, F, ok, q⟩ => ⟨F0, H0, F, ok, fun v F' H' g ⟨l, vs, ev, hl, pl⟩ => ⟨l, ev, ⟨vs, SqL.of (g.sub _ _ hl)⟩, q _ F' H' g (by
    rw [← Paired.length pl]
    exact walk_list.mono (fun H2 s => SqL.of (s _ _ hl)) fun i H2 v H3 hi s h => YZ.at pl h)⟩⟩
theorem it_T (h : EV X e Γ (rT c) xs) : IT X tg e Γ c xs :=
  PI.imp (pi_tup h) fun σ H R ⟨F0, H0, F, ok, q⟩ => ⟨F0, H0, F, ok, fun v F' H' g ⟨l, vs, ev, hl, pl⟩ => ⟨l, ev, ⟨vs, SqT.same g.sub hl⟩, q _ F' H' g (by
    rw [← Paired.length pl]
    exact walk_tup.mono (fun H2 s => SqT.same s hl) fun i H2 v H3 hi s h => YZ.at pl h)⟩⟩
theorem it_scr {ns : List Int} (h : EV X e Γ rScr ns) : IT X tg e Γ rInt ns :=
  PI.imp (pi_list h) fun σ H R ⟨F0, H0, F, ok, q⟩ => ⟨F0, H0, F, ok, fun v F' H' g ⟨l, ev, hl⟩ => ⟨l, ev, ⟨_, g.sub.seq hl⟩, q _ F' H' g (by
    have pl := PL.of_ints (K := X.K) (F := F') ns
    rw [← Paired.length pl]
    exact walk_list.mono (fun H2 s => s.seq hl) fun i H2 v H3 hi s h => YZ.at pl h)⟩⟩
def rng (lo : Int) (n : Nat) : List Int := (List.range n).map fun (i : Nat) => lo + (i : Int)
theorem rng_len (lo : Int) (n : Nat) : (rng lo n).length = n := by simp [rng]
theorem rng_get {lo : Int} {n i : Nat} {x : Int} : (rng lo n)[i]? = some x ↔ i < n ∧ x = lo + i := by
  unfold rng
  rw [List.getElem?_map]
  by_cases h : i < n
  · rw [List.getElem?_range h]
    simp [h, eq_comm]
  · rw [List.getElem?_eq_none (by simpa using h)]
    simp [h]
theorem walk_rng {K : Frag} {F1 : Hp} {lo : Int} {n : Nat} : Walk (Itr lo n) (rng lo n).length (Same F1) (YZ K F1 rInt (rng lo n)) := by
  rw [rng_len]
  exact walk_range.mono (fun _ _ => trivial) fun i H v H2 hi s h F s1 s2 => by
    obtain ⟨e, hv⟩ := h
    subst e
    exact ⟨F, lo + i, Gr.refl s2, rng_get.mpr ⟨hi, rfl⟩, hv⟩
theorem it_range {i : Int} (n : Nat) (hm : X.mg "range" = none) (h : EV X a Γ rInt i) (hi : i = n) (hn : n < 2 ^ 62) (hg : Gl X "range" := by rfl) (hs : starEach [a] X.env = [(false, eval a X.env)] := by rfl) :
    IT X tg (.Call (.Name "range" p) [a] [] pos) Γ rInt (rng 0 n) :=
  PI.imp (pi_range1 hg hm (ea1 h hs) hs) fun σ H R ⟨F0, H0, F, ok, q⟩ => ⟨F0, H0, F, ok, fun vs F' H' g pa => by
    obtain _ | ⟨p1, p2⟩ := pa
    cases p2
    subst hi
    refine ⟨(n : Int), by rw [show _ = _ from p1], by omega, by omega, ?_⟩
    rw [Int.toNat_natCast]
    exact q _ F' H' g walk_rng⟩
theorem it_range2 {i j : Int} (hm : X.mg "range" = none) (ha : EV X a Γ rInt i) (hb : EV X b Γ rInt j) (hi : -(2 ^ 62) ≤ i ∧ i < 2 ^ 62 ∧ -(2 ^ 62) ≤ j ∧ j < 2 ^ 62) (hg : Gl X "range" := by rfl)
    (hs : starEach [a, b] X.env = [(false, eval a X.env), (false, eval b X.env)] := by rfl) (hs2 : starEach [b] X.env = [(false, eval b X.env)] := by rfl) :
    IT X tg (.Call (.Name "range" p) [a, b] [] pos) Γ rInt (rng i (j - i).toNat) :=
  PI.imp (pi_range2 hg hm (ea_cons ha (ea1 hb hs2) (by rw [hs, hs2])) hs hs2) fun σ H R ⟨F0, H0, F, ok, q⟩ => ⟨F0, H0, F, ok, fun vs F' H' g pa => by
    obtain _ | ⟨p1, p2⟩ := pa
    obtain _ | ⟨p2, p3⟩ := p2
    cases p3
    exact ⟨i, j, by rw [show _ = _ from p1, show _ = _ from p2], hi, q _ F' H' g walk_rng⟩⟩
theorem it_S {l : List Nat} (h : EV X e Γ rTx l) : IT X tg e Γ rTx (l.map fun ch => [ch]) :=
  PI.imp (pi_str h) fun σ H R ⟨F0, H0, F, ok, q⟩ => ⟨F0, H0, F, ok, fun v F' H' g hv => ⟨tx l, hv, q _ F' H' g (by
    have hz : (tx l).cps.size = (l.map fun ch => [ch]).length := by simp [tx]
    rw [← hz]
    refine walk_str.mono (fun _ _ => trivial) fun i H2 v H3 hi s h F s1 s2 => ?_
    obtain ⟨e, ch, hc, hv⟩ := h
    subst e
    refine ⟨F, [ch], Gr.refl s2, ?_, hv⟩
    have : l[i]? = some ch := by simpa [tx] using hc
    rw [List.getElem?_map, this]
    rfl)⟩⟩

/-! ### targets -/
theorem gz_name (i : Nat) {n : Str} (hN : X.N.Nodup) (hi : X.N[i]? = some n := by rfl) (hx : Loc X.env.scope n := by first | exact Or.inl rfl | exact Or.inr rfl)
    (hf : X.fn n = true ∨ X.env.scope.names.lookup n = some .local := by first | exact .inl rfl | exact .inr rfl) : GZ X (.Name n p) c [i] (fun Γ y => Γ.set i (.v c y)) :=
  PG.imp (pg_name hN hi hx hf) fun v σ H Q ⟨F0, H0, F, Γ, y, ok, r, q⟩ => q _ (ok.setV r) ⟨by simp, fun j hj => by
    rw [List.getElem?_set_ne]
    intro e
    exact hj (by simp [e])⟩
theorem gz_tup2 {t1 t2 : Expr} {x1} {js1 js2 : List Nat} {g1 : List Sl → α → List Sl} {g2 : List Sl → β → List Sl} (hc : X.calm = true) (h1 : GZ X t1 c js1 g1) (h2 : GZ X t2 d js2 g2)
    (hs1 : (assignEach [t1, t2] X.env).map (·.2) = assign t1 X.env :: (assignEach [t2] X.env).map (·.2) := by rfl) (hs2 : (assignEach [t2] X.env).map (·.2) = assign t2 X.env :: (assignEach [] X.env).map (·.2) := by rfl)
    (hn : (assignEach [t1, t2] X.env).length = 2 := by rfl) (hst : (assignEach [t1, t2] X.env).findIdx? (·.1) = none := by rfl) :
    GZ X (.Tuple [t1, t2] x1 p) (r2 c d) (js1 ++ js2) (fun Γ y => g2 (g1 Γ y.1) y.2) :=
  PG.imp (pg_tup hc (pgs_cons h1 (pgs_cons h2 pgs_nil hs2) hs1) hn hst) fun v σ H Q ⟨F0, H0, F, Γ, y, ok, ⟨t, v1, v2, ev, ht, q1, q2⟩, q⟩ =>
    ⟨t, [v1, v2], ev, SqT.same ok.sub ht, rfl, v1, [v2], rfl, F0, H0, F, Γ, y.1, ok, q1, fun σ1 ok1 e1 => ⟨v2, [], rfl, F0, H0, F, _, y.2, ok1, q2, fun σ2 ok2 e2 => ⟨rfl, q σ2 ok2 ⟨e2.1.trans e1.1, fun i hi => by
      rw [e2.2 i (fun z => hi (List.mem_append.mpr (.inr z))), e1.2 i (fun z => hi (List.mem_append.mpr (.inl z)))]⟩⟩⟩⟩
theorem gz_tup3 {t1 t2 t3 : Expr} {x1} {js1 js2 js3 : List Nat} {g1 : List Sl → α → List Sl} {g2 : List Sl → β → List Sl} {g3 : List Sl → γ → List Sl} (hc : X.calm = true) (h1 : GZ X t1 c js1 g1) (h2 : GZ X t2 d js2 g2) (h3 : GZ X t3 k js3 g3)
    (hs1 : (assignEach [t1, t2, t3] X.env).map (·.2) = assign t1 X.env :: (assignEach [t2, t3] X.env).map (·.2) := by rfl) (hs2 : (assignEach [t2, t3] X.env).map (·.2) = assign t2 X.env :: (assignEach [t3] X.env).map (·.2) := by rfl)
    (hs3 : (assignEach [t3] X.env).map (·.2) = assign t3 X.env :: (assignEach [] X.env).map (·.2) := by rfl)
    (hn : (assignEach [t1, t2, t3] X.env).length = 3 := by rfl) (hst : (assignEach [t1, t2, t3] X.env).findIdx? (·.1) = none := by rfl) :
    GZ X (.Tuple [t1, t2, t3] x1 p) (r3 c d k) (js1 ++ (js2 ++ js3)) (fun Γ y => g3 (g2 (g1 Γ y.1) y.2.1) y.2.2) :=
  PG.imp (pg_tup hc (pgs_cons h1 (pgs_cons h2 (pgs_cons h3 pgs_nil hs3) hs2) hs1) hn hst) fun v σ H Q ⟨F0, H0, F, Γ, y, ok, ⟨t, v1, v2, v3, ev, ht, q1, q2, q3⟩, q⟩ =>
    ⟨t, [v1, v2, v3], ev, SqT.same ok.sub ht, rfl, v1, [v2, v3], rfl, F0, H0, F, Γ, y.1, ok, q1, fun σ1 ok1 e1 => ⟨v2, [v3], rfl, F0, H0, F, _, y.2.1, ok1, q2, fun σ2 ok2 e2 => ⟨v3, [], rfl, F0, H0, F, _, y.2.2, ok2, q3, fun σ3 ok3 e3 => ⟨rfl, q σ3 ok3 ⟨e3.1.trans (e2.1.trans e1.1), fun i hi => by
      rw [e3.2 i (fun z => hi (List.mem_append.mpr (.inr (List.mem_append.mpr (.inr z))))), e2.2 i (fun z => hi (List.mem_append.mpr (.inr (List.mem_append.mpr (.inl z))))), e1.2 i (fun z => hi (List.mem_append.mpr (.inl z)))]⟩⟩⟩⟩⟩

/-! ### comprehensions -/
def wipeS (Γ : List Sl) : List Nat → List Sl
  | [] => Γ
  | v :: vs => (wipeS Γ vs).set v .un
theorem Ok.wipe {K : Frag} {F0 H0 F H : Hp} {σ : St} {Γ : List Sl} (ok : Ok K F0 H0 F H σ Γ) : ∀ vs : List Nat, Ok K F0 H0 F H (wipe σ vs) (wipeS Γ vs)
  | [] => ok
  | v :: vs => (ok.wipe vs).setAny rfl trivial
theorem wipe_eq {σ σ' : St} {vs js : List Nat} (hl : σ'.length = (wipe σ vs).length) (h : ∀ i, i ∉ js → σ'[i]? = (wipe σ vs)[i]?) (hj : ∀ i ∈ js, i ∈ vs) : wipe σ' vs = wipe σ vs := by
  have off : ∀ (τ : St) (us : List Nat) (i : Nat), i ∉ us → (wipe τ us)[i]? = τ[i]? := by
    intro τ us
    induction us with
    | nil => intro i _; rfl
    | cons u us ih =>
      intro i hi
      simp only [List.mem_cons, not_or] at hi
      show ((wipe τ us).set u none)[i]? = _
      rw [List.getElem?_set_ne (Ne.symm hi.1), ih i hi.2]
  have on : ∀ (τ : St) (us : List Nat) (i : Nat), i ∈ us → i < τ.length → (wipe τ us)[i]? = some none := by
    intro τ us
    induction us with
    | nil => intro i hi; cases hi
    | cons u us ih =>
      intro i hi hl
      show ((wipe τ us).set u none)[i]? = _
      by_cases e : u = i
      · subst e
        rw [List.getElem?_set_self (by rw [wipe_length]; exact hl)]
      · rw [List.getElem?_set_ne e]
        rcases List.mem_cons.mp hi with z | z
        · exact absurd z.symm e
        · exact ih i z hl
  have hlen : σ'.length = σ.length := by rw [hl, wipe_length]
  apply List.ext_getElem?
  intro i
  by_cases hi : i ∈ vs
  · by_cases hb : i < σ.length
    · rw [on σ' vs i hi (by omega), on σ vs i hi hb]
    · rw [List.getElem?_eq_none (by rw [wipe_length]; omega), List.getElem?_eq_none (by rw [wipe_length]; omega)]
  · rw [off σ' vs i hi, off σ vs i hi, h i (fun z => hi (hj i z)), off σ vs i hi]
abbrev Blk (X : Cx) (scope : Scope) (s : Shared) (H : Hp) (C : Addr) (cl : List (Str × Addr)) (fp : List Addr) : Cx := X.blk s H scope (compEnvC scope cl C X.env) fp
abbrev EBs (X : Cx) (ifs : List Expr) (Γ : List Sl) (b : Bool) : Prop := PTs X ifs (tEB X.K Γ b)
theorem ebs_nil : EBs X [] Γ true := PTs.imp pts_nil fun σ H Q ⟨F0, H0, F, ok, q⟩ => q F H (Gr.refl ok.sub)
theorem ebs1 {q : Bool} (h : EB X e Γ q) : EBs X [e] Γ q := pts_one h
theorem take_filter_succ {p : α → Bool} {f : α → β} {i : Nat} {y : α} (h : xs[i]? = some y) : ((xs.take (i + 1)).filter p).map f = ((xs.take i).filter p).map f ++ (if p y = true then [f y] else []) := by
  have hi : i < xs.length := (List.getElem?_eq_some_iff.mp h).1
  have e : xs[i] = y := (List.getElem?_eq_some_iff.mp h).2
  rw [List.take_succ_eq_append_getElem hi, List.filter_append, List.map_append, e]
  congr 1
  by_cases q : p y = true
  · simp [q]
  · simp [q]
def ttZ (K : Frag) (c : Rp α) (js vs : List Nat) (g : List Sl → α → List Sl) (Γ : List Sl) (xs : List α) (pp : α → Bool) : TT := fun σ H Q => ∃ y, y ∈ xs ∧ tEB K (g (wipeS Γ vs) y) (pp y) σ H Q
def teZ (K : Frag) (d : Rp β) (vs : List Nat) (g : List Sl → α → List Sl) (Γ : List Sl) (xs : List α) (pp : α → Bool) (f : α → β) : TE := fun σ H Q => ∃ y, y ∈ xs ∧ pp y = true ∧ tE K (g (wipeS Γ vs) y) (vv d (f y)) σ H Q
theorem tlc_of {K : Frag} {js ws : List Nat} {g : List Sl → α → List Sl} {pp : α → Bool} {f : α → β} {d : Rp β} (hj : ∀ i ∈ js, i ∈ ws) (hz : xs.length ≤ 16777216) {σ : St} {H : Hp} {Q : VK} (h : tEO K Γ (.ol d ((xs.filter pp).map f)) σ H Q) :
    tLc (tIT K Γ c xs) (tGZ K c js g) (ttZ K c js ws g Γ xs pp) (teZ K d ws g Γ xs pp f) ws σ H Q := by
  obtain ⟨F0, H0, F, okk, q⟩ := h
  refine ⟨F0, H0, F, okk, fun J F1 H1 g1 wk D hD => ?_⟩
  have ok1 := okk.grow g1
  refine lc_it (g := tGZ K c js g) (tt := ttZ K c js ws g Γ xs pp)
    (te := teZ K d ws g Γ xs pp f) (vs := ws) (σ := σ) (Qd := fun H' => Q (.ref D) H') wk (fun i H' => ∃ F' vs, Gr F1 H1 F' H' ∧ F' D = none ∧ H' D = some (.lst vs) ∧ PL d K F' vs (((xs.take i).filter pp).map f))
    ⟨F1, [], Gr.hold g1.sub hD, none_of_same g1.sub hD, upd_same, by simpa using .nil⟩ (fun i H' _ ⟨F', vs, gg, _⟩ => gg.ff.trans gg.sub) (fun i v H' H2 hlt ⟨F', vs, gg, fD, hD', pl⟩ yz => ?_) fun H' ⟨F', vs, gg, fD, hD', pl⟩ => ?_
  · obtain ⟨F2, y, g2, hy, ry⟩ := yz F' gg.ff gg.sub
    have okw := (ok1.grow (gg.trans g2)).wipe ws
    have hm : y ∈ xs := List.mem_of_getElem? hy
    have st := take_filter_succ (p := pp) (f := f) hy
    refine ⟨F0, H0, F2, _, y, okw, ry, fun σ2 ok2 e2 => ⟨wipe_eq e2.1 e2.2 hj, y, hm, F0, H0, F2, ok2, fun F3 H3 g3 => ?_⟩⟩
    have g23 := g2.trans g3
    dsimp only
    by_cases hp : pp y = true
    · rw [if_pos hp]
      rw [if_pos hp] at st
      refine ⟨y, hm, hp, F0, H0, F3, ok2.grow g3, fun u F4 H4 g4 r4 => ?_⟩
      have g24 := g23.trans g4
      have hD4 : H4 D = some (.lst vs) := g24.hh _ _ hD'
      have fD4 : F4 D = none := g24.none fD hD'
      refine ⟨vs, hD4, ?_, F4, vs ++ [u], ?_, fD4, upd_same, ?_⟩
      · have l1 := Paired.length pl
        have l2 : (((xs.take i).filter pp).map f).length ≤ i := by
          rw [List.length_map]
          exact Nat.le_trans (List.length_filter_le _ _) (by rw [List.length_take]; omega)
        rw [sizeLine_eq]
        omega
      · have ga := gg.trans g24
        exact ⟨same_upd2 ga.hh hD, ga.ff, same_upd2 ga.sub fD4, ga.new⟩
      · rw [st]
        exact Paired.append (PL.mono g24.ff pl) (.cons r4 .nil)
    · rw [if_neg hp]
      rw [if_neg hp, List.append_nil] at st
      exact ⟨F3, vs, gg.trans g23, g23.none fD hD', g23.hh _ _ hD', by rw [st]; exact PL.mono g23.ff pl⟩
  · rw [List.take_length] at pl
    exact q D _ F' H' (g1.trans gg) fD (none_of_same g1.hh hD) hD' ⟨vs, rfl, pl⟩
theorem eo_lc {elt : Expr} {ifs : List Expr} {scope : Scope} {own : List (Str × Nat)} {js : List Nat} {g : List Sl → α → List Sl} (pp : α → Bool) (f : α → β)
    (hN : X.N.Nodup) (hi : IT X tg iter Γ c xs) (ok : BlkOk X.N X.env.scope scope own)
    (hg : ∀ s H C cl fp, GZ (Blk X scope s H C cl fp) tg c js g) (hj : ∀ i ∈ js, i ∈ own.map (·.2))
    (ht : ∀ s H C cl fp y, y ∈ xs → EBs (Blk X scope s H C cl fp) ifs (g (wipeS Γ (own.map (·.2))) y) (pp y))
    (he : ∀ s H C cl fp y, y ∈ xs → pp y = true → EV (Blk X scope s H C cl fp) elt (g (wipeS Γ (own.map (·.2))) y) d (f y))
    (hz : xs.length ≤ 16777216) (hc : X.calm = true := by rfl) (hs : ∀ x, foldedSetIterable iter X.env x = pure x := by intro _; rfl) :
    EO X (.ListComp elt [⟨tg, iter, ifs, 0⟩] scope pos) Γ (.ol d ((xs.filter pp).map f)) := by
  have hG : ∀ (s : Shared) (H : Hp) (C : Addr) (cl : List (Str × Addr)) (fp : List Addr), PTs (Blk X scope s H C cl fp) ifs (ttZ X.K c js (own.map (·.2)) g Γ xs pp) :=
    fun s H C cl fp => ⟨fun pins s' σ H' Q I ⟨y, hy, q⟩ => (ht s H C cl fp y hy).run pins s' σ H' Q I q⟩
  have hE : ∀ (s : Shared) (H : Hp) (C : Addr) (cl : List (Str × Addr)) (fp : List Addr), PE (Blk X scope s H C cl fp) elt (teZ X.K d (own.map (·.2)) g Γ xs pp f) :=
    fun s H C cl fp => ⟨fun pins s' σ H' Q I ⟨y, hy, hp, q⟩ => (he s H C cl fp y hy hp).run pins s' σ H' Q I q⟩
  exact PE.imp (pe_lc hc hN hi ok hg hG hE hs) fun σ H Q h => tlc_of hj hz h
/-- without a test -/
theorem eo_lc0 {elt : Expr} {scope : Scope} {own : List (Str × Nat)} {js : List Nat} {g : List Sl → α → List Sl} (f : α → β)
    (hN : X.N.Nodup) (hi : IT X tg iter Γ c xs) (ok : BlkOk X.N X.env.scope scope own)
    (hg : ∀ s H C cl fp, GZ (Blk X scope s H C cl fp) tg c js g) (hj : ∀ i ∈ js, i ∈ own.map (·.2))
    (he : ∀ s H C cl fp y, y ∈ xs → EV (Blk X scope s H C cl fp) elt (g (wipeS Γ (own.map (·.2))) y) d (f y))
    (hz : xs.length ≤ 16777216) (hc : X.calm = true := by rfl) (hs : ∀ x, foldedSetIterable iter X.env x = pure x := by intro _; rfl) :
    EO X (.ListComp elt [⟨tg, iter, [], 0⟩] scope pos) Γ (.ol d (xs.map f)) := by
  have h := eo_lc (pos := pos) (ifs := []) (fun _ => true) f hN hi ok hg hj (fun s H C cl fp y _ => ebs_nil) (fun s H C cl fp y hy _ => he s H C cl fp y hy) hz hc hs
  have e : (xs.filter fun _ => true) = xs := List.filter_eq_self.mpr fun _ _ => rfl
  rw [e] at h
  exact h
end
end Z

set_option Elab.async false
set_option linter.all false
set_option maxRecDepth 100000
set_option maxHeartbeats 4000000
/-! Zed: statements, loops, defs. -/
namespace Z
open PySem PySem.Spec PyProof.Rows L2

structure Out (ρ : Type) where
  nx : List Sl → Prop
  c : Rp ρ
  rt : ρ → Prop
  bk : List Sl → Prop := fun _ => False
  ct : List Sl → Prop := fun _ => False
structure Ct {ρ : Type} (K : Frag) (F0 H0 F : Hp) (O : Out ρ) (D : Ends) : Prop where
  nx : ∀ Γ' σ' F' H', O.nx Γ' → Same F F' → Ok K F0 H0 F' H' σ' Γ' → D.nx σ' H'
  rt : ∀ x v F' H', O.rt x → Gr F0 H0 F' H' → O.c.r K F' v x → D.rt v H'
  bk : ∀ Γ' σ' F' H', O.bk Γ' → Same F F' → Ok K F0 H0 F' H' σ' Γ' → D.bk σ' H'
  ct : ∀ Γ' σ' F' H', O.ct Γ' → Same F F' → Ok K F0 H0 F' H' σ' Γ' → D.ct σ' H'
theorem Ct.step {ρ : Type} {K : Frag} {F0 H0 F F1 : Hp} {O : Out ρ} {D : Ends} (h : Ct K F0 H0 F O D) (s : Same F F1) : Ct K F0 H0 F1 O D :=
  ⟨fun a b c d e f g => h.nx a b c d e (s.trans f) g, h.rt, fun a b c d e f g => h.bk a b c d e (s.trans f) g, fun a b c d e f g => h.ct a b c d e (s.trans f) g⟩
def tS {ρ : Type} (K : Frag) (Γ : List Sl) (O : Out ρ) : TS := fun D σ H => ∃ F0 H0 F, Ok K F0 H0 F H σ Γ ∧ Ct K F0 H0 F O D
abbrev SS {ρ : Type} (X : Cx) (sts : List Stmt) (Γ : List Sl) (O : Out ρ) : Prop := PSs X sts (tS X.K Γ O)
/-- any state from which the block is good -/
def tSa {ρ : Type} (X : Cx) (sts : List Stmt) : TS := fun D σ H => ∃ (Γ : List Sl) (O : Out ρ), SS X sts Γ O ∧ tS X.K Γ O D σ H
theorem ssa {ρ : Type} {X : Cx} {sts : List Stmt} : PSs X sts (tSa (ρ := ρ) X sts) := ⟨fun pins s σ H D I ⟨Γ, O, h, q⟩ => h.run pins s σ H D I q⟩
def tTa (X : Cx) (e : Expr) : TT := fun σ H Q => ∃ Γ b, EB X e Γ b ∧ tEB X.K Γ b σ H Q
theorem tta {X : Cx} {e : Expr} : PT X e (tTa X e) := ⟨fun pins s σ H Q I ⟨Γ, b, h, q⟩ => h.run pins s σ H Q I q⟩

section
variable {ρ : Type} {X : Cx} {Γ Γ' : List Sl} {O : Out ρ} {a b e tg iter : Expr} {es : List Expr} {st : Stmt} {A B rest body : List Stmt} {pos p p2 : Pos} {α β γ : Type} {c : Rp α} {d : Rp β} {x : α} {y : β} {xs : List α}

theorem ss_nil (h : O.nx Γ) : SS X [] Γ O := PSs.imp pss_nil fun D σ H ⟨F0, H0, F, ok, q⟩ => q.nx Γ σ F H h (Same.refl _) ok
theorem ss_weak (h : SS X rest Γ' O) (w : Wk Γ Γ') : SS X rest Γ O := PSs.imp h fun D σ H ⟨F0, H0, F, ok, q⟩ => ⟨F0, H0, F, ok.weak w, q⟩
/-- the head statement, then the rest -/
theorem ss_step {t : TS} (h : PS X st t) (q : ∀ F0 H0 F (D : Ends) σ H, Ok X.K F0 H0 F H σ Γ → Ct X.K F0 H0 F O D → t { D with nx := tSa (ρ := ρ) X rest D } σ H) : SS X (st :: rest) Γ O :=
  PSs.imp (pss_cons h (ssa (ρ := ρ))) fun D σ H ⟨F0, H0, F, ok, z⟩ => q F0 H0 F D σ H ok z
theorem ss_set (i : Nat) {n : Str} (hN : X.N.Nodup) (he : EV X e Γ c x) (h : SS X rest (Γ.set i (.v c x)) O) (hi : X.N[i]? = some n := by rfl) (hx : Loc X.env.scope n := by first | exact Or.inl rfl | exact Or.inr rfl)
    (hs : swapsWith e (some (.Name n p)) pos.line X.env = pure false := by rfl) (hf : X.fn n = true ∨ X.env.scope.names.lookup n = some .local := by first | exact .inl rfl | exact .inr rfl) : SS X (.Assign [.Name n p] e pos :: rest) Γ O :=
  ss_step (ps_set hN hi hx he hs hf) fun F0 H0 F D σ H ok q => ⟨F0, H0, F, ok, fun v F' H' g r => ⟨_, O, h, F0, H0, F', (ok.grow g).setV r, q.step g.ff⟩⟩
theorem ss_setO (i : Nat) {n : Str} {s : Sl} (hN : X.N.Nodup) (he : EO X e Γ s) (h : SS X rest (Γ.set i s) O) (hi : X.N[i]? = some n := by rfl) (hx : Loc X.env.scope n := by first | exact Or.inl rfl | exact Or.inr rfl)
    (hs : swapsWith e (some (.Name n p)) pos.line X.env = pure false := by rfl) (hf : X.fn n = true ∨ X.env.scope.names.lookup n = some .local := by first | exact .inl rfl | exact .inr rfl) (hp : ∀ l, s.pin l := by intro _; trivial) : SS X (.Assign [.Name n p] e pos :: rest) Γ O :=
  ss_step (ps_set hN hi hx he hs hf) fun F0 H0 F D σ H ok q => ⟨F0, H0, F, ok, fun l ho F' H' g hF hl hH r => ⟨_, O, h, F0, H0, F', ok.setC g hl hF hH r (hp l), q.step g.ff⟩⟩
/-- i = [f for x in xs if pp], on one line -/
theorem ss_setLc (i : Nat) {n : Str} {py : Pos} {elt tg iter : Expr} {ifs : List Expr} {scope : Scope} {own : List (Str × Nat)} {js : List Nat} {g : List Sl → α → List Sl} {xs : List α} {d : Rp β} {gpos : Pos} (pp : α → Bool) (f : α → β)
    (hN : X.N.Nodup) (hi : IT X tg iter Γ c xs) (ok : BlkOk X.N X.env.scope scope own)
    (hg : ∀ s H C cl fp, GZ (Blk X scope s H C cl fp) tg c js g) (hj : ∀ i ∈ js, i ∈ own.map (·.2))
    (ht : ∀ s H C cl fp y, y ∈ xs → EBs (Blk X scope s H C cl fp) ifs (g (wipeS Γ (own.map (·.2))) y) (pp y))
    (he : ∀ s H C cl fp y, y ∈ xs → pp y = true → EV (Blk X scope s H C cl fp) elt (g (wipeS Γ (own.map (·.2))) y) d (f y))
    (hz : xs.length ≤ 16777216) (h : SS X rest (Γ.set i (.ol d ((xs.filter pp).map f))) O) (hy : X.N[i]? = some n := by rfl) (hyl : X.env.scope.names.lookup n = some .local := by rfl)
    (hc : X.calm = true := by rfl) (hs : ∀ x, foldedSetIterable iter X.env x = pure x := by intro _; rfl)
    (hsw : swapsWith (.ListComp elt [⟨tg, iter, ifs, 0⟩] scope gpos) (some (.Name n py)) pos.line X.env = pure true := by exact sw_true rfl rfl rfl rfl) : SS X (.Assign [.Name n py] (.ListComp elt [⟨tg, iter, ifs, 0⟩] scope gpos) pos :: rest) Γ O :=
  have hG : ∀ (s : Shared) (H : Hp) (C : Addr) (cl : List (Str × Addr)) (fp : List Addr), PTs (Blk X scope s H C cl fp) ifs (ttZ X.K c js (own.map (·.2)) g Γ xs pp) :=
    fun s H C cl fp => ⟨fun pins s' σ H' Q I ⟨y, hy, q⟩ => (ht s H C cl fp y hy).run pins s' σ H' Q I q⟩
  have hE : ∀ (s : Shared) (H : Hp) (C : Addr) (cl : List (Str × Addr)) (fp : List Addr), PE (Blk X scope s H C cl fp) elt (teZ X.K d (own.map (·.2)) g Γ xs pp f) :=
    fun s H C cl fp => ⟨fun pins s' σ H' Q I ⟨y, hy, hp, q⟩ => (he s H C cl fp y hy hp).run pins s' σ H' Q I q⟩
  ss_step (ps_setLc hc hN hy hyl hsw hi ok hg hG hE hs) fun F0 H0 F D σ H ok q => tlc_of hj hz ⟨F0, H0, F, ok, fun l ho F' H' g hF hl hH r => ⟨_, O, h, F0, H0, F', ok.setC g hl hF hH r trivial, q.step g.ff⟩⟩
/-- a, b = e -/
theorem ss_asg {js : List Nat} {g : List Sl → α → List Sl} (hg : GZ X tg c js g) (he : EV X e Γ c x) (h : SS X rest (g Γ x) O) (hs : swapsWithSole [tg] e pos.line X.env = pure false := by rfl) (hw : swappedStores [tg] e X.env = pure none := by rfl)
    (h1 : (assignEach [tg] X.env).map (·.2) = [assign tg X.env] := by rfl) : SS X (.Assign [tg] e pos :: rest) Γ O :=
  ss_step (ps_asg he hg hs hw h1) fun F0 H0 F D σ H ok q => ⟨F0, H0, F, ok, fun v F' H' gr r => ⟨F0, H0, F', Γ, x, ok.grow gr, r, fun σ' ok' _ => ⟨_, O, h, F0, H0, F', ok', q.step gr.ff⟩⟩⟩
theorem ss_ret (he : EV X e Γ O.c x') (h : O.rt x') : SS X (.Return (some e) pos :: rest) Γ O :=
  ss_step (ps_ret he) fun F0 H0 F D σ H ok q => ⟨F0, H0, F, ok, fun v F' H' g r => q.rt x' v F' H' h (ok.gr.trans g) r⟩
theorem ss_if {k : Bool} (hc : EB X a Γ k) (hA : k = true → SS X A Γ { O with nx := fun Γ' => SS X rest Γ' O }) (hB : k = false → SS X B Γ { O with nx := fun Γ' => SS X rest Γ' O }) : SS X (.If a A B pos :: rest) Γ O :=
  ss_step (ps_if hc (ssa (ρ := ρ)) (ssa (ρ := ρ))) fun F0 H0 F D σ H ok q => ⟨F0, H0, F, ok, fun F' H' g => by
    have hq : Ct X.K F0 H0 F' { O with nx := fun Γ' => SS X rest Γ' O } { D with nx := tSa (ρ := ρ) X rest D } :=
      ⟨fun Γ' σ' F2 H2 h s k => ⟨Γ', O, h, F0, H0, F2, k, q.step (g.ff.trans s)⟩, q.rt, (q.step g.ff).bk, (q.step g.ff).ct⟩
    cases k with
    | true => exact iteT ⟨Γ, _, hA rfl, F0, H0, F', ok.grow g, hq⟩
    | false => exact iteF ⟨Γ, _, hB rfl, F0, H0, F', ok.grow g, hq⟩⟩
/-- the ways of an if joined: J is what holds behind it -/
theorem ss_ifJ {k : Bool} (J : List Sl) (hc : EB X a Γ k) (hA : k = true → SS X A Γ { O with nx := fun Γ' => Wk Γ' J }) (hB : k = false → SS X B Γ { O with nx := fun Γ' => Wk Γ' J }) (h : SS X rest J O) : SS X (.If a A B pos :: rest) Γ O := by
  have cv : ∀ {C : List Stmt}, SS X C Γ { O with nx := fun Γ' => Wk Γ' J } → SS X C Γ { O with nx := fun Γ' => SS X rest Γ' O } := fun hC => PSs.imp hC fun D σ H ⟨F0, H0, F, ok, q⟩ =>
    ⟨F0, H0, F, ok, fun Γ' σ' F' H' w s k => q.nx Γ' σ' F' H' (ss_weak h w) s k, q.rt, q.bk, q.ct⟩
  exact ss_if hc (fun e => cv (hA e)) fun e => cv (hB e)
theorem ss_brk (h : O.bk Γ) : SS X (.Break pos :: rest) Γ O := ss_step ps_break fun F0 H0 F D σ H ok q => q.bk Γ σ F H h (Same.refl _) ok
theorem ss_cont (h : O.ct Γ) : SS X (.Continue pos :: rest) Γ O := ss_step ps_continue fun F0 H0 F D σ H ok q => q.ct Γ σ F H h (Same.refl _) ok
theorem ss_pass (h : SS X rest Γ O) : SS X (.Pass pos :: rest) Γ O := ss_step ps_pass fun F0 H0 F D σ H ok q => ⟨Γ, O, h, F0, H0, F, ok, q⟩
/-- a statement that is never reached -/
theorem ss_never (h : False) : SS X (st :: rest) Γ O := h.elim
/-- a cell's list is frozen -/
theorem ss_fz (i : Nat) (hi : Γ[i]? = some (.ol c xs)) (h : SS X rest (Γ.set i (.v (rL c) xs)) O) : SS X rest Γ O := PSs.imp h fun D σ H ⟨F0, H0, F, ok, q⟩ => by
  obtain ⟨l, hl, ca⟩ := ok.cell hi rfl
  obtain ⟨ho, hH, vs, eo, pl⟩ := ca.o
  subst eo
  exact ⟨F0, H0, _, ok.freeze hi rfl hl hH ⟨l, vs, rfl, upd_same, PL.mono (same_upd ca.f) pl⟩, q.step (same_upd ca.f)⟩
/-- xs.append(e), xs a cell -/
theorem ss_app (i : Nat) {n : Str} {p3 : Pos} (hi : Γ[i]? = some (.ol c xs)) (he : EV X e Γ c x) (hz : xs.length < 16777216) (h : SS X rest (Γ.set i (.ol c (xs ++ [x]))) O) (hN : X.N[i]? = some n := by rfl)
    (hv : Vis X.env.scope n := by first | exact Or.inl rfl | exact Or.inr (Or.inl rfl) | exact Or.inr (Or.inr rfl))
    (hd : (n == ("__debug__" : Str)) = false := by decide) (hcd : (n == ("__classdict__" : Str)) = false := by decide)
    (hbase : attributeBase (.Name n p) "append" X.env (eval (.Name n p) X.env) = eval (.Name n p) X.env := by rfl)
    (hfew : ((backTo p3 (starEach [e] X.env)).all (fun x => !x.1) && (backToKw p3 (keywordEach [] X.env)).all (fun x => x.1.isSome)
      && decide (([e] : List Expr).length + ([] : List Keyword).length + (if ([] : List Keyword).isEmpty then 0 else 1) < 30)) = true := by rfl)
    (hline : (p2.endLine == p3.line) = true := by rfl) (hs1 : starEach [e] X.env = [(false, eval e X.env)] := by rfl) (hplain : (backTo p3 (starEach [] X.env)).any (·.1) = false := by rfl)
    (hs : swapsWith (.Call (.Attribute (.Name n p) "append" p2) [e] [] p3) none pos.line X.env = pure false := by rfl) : SS X (.Expr (.Call (.Attribute (.Name n p) "append" p2) [e] [] p3) pos :: rest) Γ O :=
  ss_step (ps_expr (pe_bm PySem.F.plainAttrs_list PySem.F.slot_list_append PySem.F.type_list_append mt_append (pv i hN hv hd hcd) (ea1 he hs1) hbase hfew hline hs1 hplain) hs) fun F0 H0 F D σ H ok q => by
    obtain ⟨l, hl, ca⟩ := ok.cell hi rfl
    obtain ⟨ho, hH, vs, eo, pl⟩ := ca.o
    subst eo
    refine ⟨_, hl, .inl ⟨rfl, vs, SqL.of hH⟩, F0, H0, F, ok, fun us F' H' g pa => ?_⟩
    obtain _ | ⟨r, p2⟩ := pa
    cases p2
    have ok' := ok.grow g
    have pl' := PL.mono g.ff pl
    refine ⟨l, vs, _, rfl, rfl, g.hh _ _ hH, by rw [Paired.length pl, sizeLine_eq]; exact hz, _, O, h, F0, H0, F', ?_, q.step g.ff⟩
    exact ok'.write hi rfl hl ⟨_, rfl, Paired.append pl' (.cons r .nil)⟩
/-- xs[j] = e, xs a cell -/
theorem ss_store (i : Nat) {n : Str} {j : Int} {m : Nat} (hi : Γ[i]? = some (.ol c xs)) (hb : EV X b Γ rInt j) (he : EV X e Γ c x) (hj : j = m) (hm : m < xs.length) (h : SS X rest (Γ.set i (.ol c (xs.set m x))) O) (hN : X.N[i]? = some n := by rfl)
    (hv : Vis X.env.scope n := by first | exact Or.inl rfl | exact Or.inr (Or.inl rfl) | exact Or.inr (Or.inr rfl))
    (hd : (n == ("__debug__" : Str)) = false := by decide) (hcd : (n == ("__classdict__" : Str)) = false := by decide)
    (ha : ∀ v, assign (.Subscript (.Name n p) b p2) X.env v = (do
      let ov ← holding [v] (eval (.Name n p) X.env)
      let iv ← holding [v, ov] (eval b X.env)
      standAt p2
      holding [v, ov, iv] (setItem ov iv v)
      release [v, ov, iv] []) := by intro _; rfl)
    (hs : swapsWithSole [.Subscript (.Name n p) b p2] e pos.line X.env = pure false := by rfl) (hw : swappedStores [.Subscript (.Name n p) b p2] e X.env = pure none := by rfl)
    (h1 : (assignEach [.Subscript (.Name n p) b p2] X.env).map (·.2) = [assign (.Subscript (.Name n p) b p2) X.env] := by rfl) : SS X (.Assign [.Subscript (.Name n p) b p2] e pos :: rest) Γ O :=
  ss_step (ps_asg he (pg_sub (pv i hN hv hd hcd) hb set_list ha) hs hw h1) fun F0 H0 F D σ H ok q => by
    refine ⟨F0, H0, F, ok, fun v F' H' g r => ?_⟩
    have ok' := ok.grow g
    obtain ⟨l, hl, ca⟩ := ok'.cell hi rfl
    refine ⟨_, hl, F0, H0, F', ok', fun w F2 H2 g2 r2 => ?_⟩
    have ok2 := ok'.grow g2
    obtain ⟨l', hl', ca2⟩ := ok2.cell hi rfl
    rw [hl] at hl'
    cases hl'
    obtain ⟨ho, hH, vs, eo, pl⟩ := ca2.o
    subst eo
    have hw : w = .int j := r2
    refine ⟨l, vs, j, m, rfl, hw, hH, ?_, _, O, h, F0, H0, F2, ?_, q.step (g.ff.trans g2.ff)⟩
    · subst hj
      unfold ixN
      rw [Paired.length pl, if_pos (by omega), if_pos (by omega), Int.toNat_natCast]
    · exact ok2.write hi rfl hl ⟨_, rfl, Paired.set (c.mono g2.ff r) m pl⟩

/-! ### loops -/
theorem ss_for {js : List Nat} {g : List Sl → α → List Sl} (I : Nat → List Sl → Prop) (hi : IT X tg iter Γ c xs) (hg : GZ X tg c js g) (h0 : I 0 Γ)
    (hs : ∀ i x Γ', xs[i]? = some x → I i Γ' → SS X body (g Γ' x) { O with nx := I (i + 1), ct := I (i + 1), bk := fun Γ'' => SS X rest Γ'' O })
    (hd : ∀ Γ', I xs.length Γ' → SS X rest Γ' O) (hp : PassesOwn (model X.prog X.w) X.A X.env X.xe := by exact PassesOwn.never) (hc : X.calm = true := by rfl) (hf : ∀ x, foldedSetIterable iter X.env x = pure x := by intro _; rfl) :
    SS X (.For tg iter body [] pos :: rest) Γ O :=
  ss_step (ps_for hp hc hi hg (ssa (ρ := ρ)) hf) fun F0 H0 F D σ H ok q => ⟨F0, H0, F, ok, fun J F1 H1 g1 wk => by
    refine for_it wk (fun i σ' H' => ∃ F' Γ', I i Γ' ∧ Ok X.K F0 H0 F' H' σ' Γ' ∧ Same F1 F') ⟨F1, Γ, h0, ok.grow g1, Same.refl _⟩ (fun i σ' H' _ ⟨F', Γ', _, k, s⟩ => s.trans k.sub) (fun i v σ' H' H2 hlt ⟨F', Γ', hI, k, s⟩ yz => ?_) fun σ' H' ⟨F', Γ', hI, k, s⟩ => ?_
    · obtain ⟨F2, y, g2, hy, ry⟩ := yz F' s k.sub
      refine ⟨F0, H0, F2, Γ', y, k.grow g2, ry, fun σ2 ok2 _ => ⟨_, _, hs i y Γ' hy hI, F0, H0, F2, ok2, ?_⟩⟩
      have s2 : Same F1 F2 := s.trans g2.ff
      exact ⟨fun Γ3 σ3 F3 H3 h3 s3 k3 => ⟨F3, Γ3, h3, k3, s2.trans s3⟩, q.rt, fun Γ3 σ3 F3 H3 h3 s3 k3 => ⟨Γ3, O, h3, F0, H0, F3, k3, q.step (g1.ff.trans (s2.trans s3))⟩, fun Γ3 σ3 F3 H3 h3 s3 k3 => ⟨F3, Γ3, h3, k3, s2.trans s3⟩⟩
    · exact ⟨Γ', O, hd Γ' hI, F0, H0, F', k, q.step (g1.ff.trans s)⟩⟩
/-- the common case: a state by the turn -/
theorem ss_forG {js : List Nat} {g : List Sl → α → List Sl} (G : Nat → List Sl) (hi : IT X tg iter Γ c xs) (hg : GZ X tg c js g) (h0 : Wk Γ (G 0))
    (hs : ∀ i x, xs[i]? = some x → SS X body (g (G i) x) { O with nx := fun Γ' => Wk Γ' (G (i + 1)), ct := fun Γ' => Wk Γ' (G (i + 1)), bk := fun Γ'' => SS X rest Γ'' O })
    (hd : SS X rest (G xs.length) O) (hp : PassesOwn (model X.prog X.w) X.A X.env X.xe := by exact PassesOwn.never) (hc : X.calm = true := by rfl) (hf : ∀ x, foldedSetIterable iter X.env x = pure x := by intro _; rfl) :
    SS X (.For tg iter body [] pos :: rest) Γ O := by
  refine ss_step (ps_for hp hc hi hg (ssa (ρ := ρ)) hf) fun F0 H0 F D σ H ok q => ⟨F0, H0, F, ok, fun J F1 H1 g1 wk => ?_⟩
  refine for_it wk (fun i σ' H' => ∃ F', Ok X.K F0 H0 F' H' σ' (G i) ∧ Same F1 F') ⟨F1, (ok.grow g1).weak h0, Same.refl _⟩ (fun i σ' H' _ ⟨F', k, s⟩ => s.trans k.sub) (fun i v σ' H' H2 hlt ⟨F', k, s⟩ yz => ?_) fun σ' H' ⟨F', k, s⟩ => ?_
  · obtain ⟨F2, y, g2, hy, ry⟩ := yz F' s k.sub
    refine ⟨F0, H0, F2, G i, y, k.grow g2, ry, fun σ2 ok2 _ => ⟨_, _, hs i y hy, F0, H0, F2, ok2, ?_⟩⟩
    have s2 : Same F1 F2 := s.trans g2.ff
    exact ⟨fun Γ3 σ3 F3 H3 h3 s3 k3 => ⟨F3, k3.weak h3, s2.trans s3⟩, q.rt, fun Γ3 σ3 F3 H3 h3 s3 k3 => ⟨Γ3, O, h3, F0, H0, F3, k3, q.step (g1.ff.trans (s2.trans s3))⟩, fun Γ3 σ3 F3 H3 h3 s3 k3 => ⟨F3, k3.weak h3, s2.trans s3⟩⟩
  · exact ⟨_, O, hd, F0, H0, F', k, q.step (g1.ff.trans s)⟩
theorem foldl_take_succ {α σ : Type} {f : σ → α → σ} {s0 : σ} {xs : List α} {i : Nat} {x : α} (h : xs[i]? = some x) : (xs.take (i + 1)).foldl f s0 = f ((xs.take i).foldl f s0) x := by
  have hi : i < xs.length := (List.getElem?_eq_some_iff.mp h).1
  have e : xs[i] = x := (List.getElem?_eq_some_iff.mp h).2
  rw [List.take_succ_eq_append_getElem hi, List.foldl_append, e]
  rfl
/-- a fold: s the state, Gs the slots by it -/
theorem ss_forF {σ : Type} (f : σ → α → σ) (s0 : σ) (Gs : σ → List Sl) (Iv : Nat → σ → Prop) {js : List Nat} {g : List Sl → α → List Sl} (hi : IT X tg iter Γ c xs) (hg : GZ X tg c js g) (h0 : Wk Γ (Gs s0))
    (hI0 : Iv 0 s0) (hI : ∀ i x s, xs[i]? = some x → Iv i s → Iv (i + 1) (f s x))
    (hs : ∀ i x s, xs[i]? = some x → Iv i s → SS X body (g (Gs s) x) { O with nx := fun Γ' => Wk Γ' (Gs (f s x)), ct := fun Γ' => Wk Γ' (Gs (f s x)), bk := fun Γ'' => SS X rest Γ'' O })
    (hd : Iv xs.length (xs.foldl f s0) → SS X rest (Gs (xs.foldl f s0)) O) (hp : PassesOwn (model X.prog X.w) X.A X.env X.xe := by exact PassesOwn.never) (hc : X.calm = true := by rfl) (hf : ∀ x, foldedSetIterable iter X.env x = pure x := by intro _; rfl) :
    SS X (.For tg iter body [] pos :: rest) Γ O := by
  have iv : ∀ i, i ≤ xs.length → Iv i ((xs.take i).foldl f s0) := by
    intro i
    induction i with
    | zero => intro _; exact hI0
    | succ i ih =>
      intro h
      have hx : xs[i]? = some xs[i] := List.getElem?_eq_getElem h
      rw [foldl_take_succ hx]
      exact hI i _ _ hx (ih (Nat.le_of_lt h))
  refine ss_forG (fun i => Gs ((xs.take i).foldl f s0)) hi hg h0 (fun i x hx => ?_) ?_ hp hc hf
  · have hlt := (List.getElem?_eq_some_iff.mp hx).1
    try dsimp only
    rw [foldl_take_succ hx]
    exact hs i x _ hx (iv i (Nat.le_of_lt hlt))
  · try dsimp only
    rw [List.take_length]
    have := iv xs.length (Nat.le_refl _)
    rw [List.take_length] at this
    exact hd this
theorem ss_while (I : Nat → List Sl → Prop) (m0 : Nat) (h0 : I m0 Γ)
    (turn : ∀ m Γ', I m Γ' → ∃ k, EB X a Γ' k ∧ (k = true → SS X body Γ' { O with nx := fun Γ'' => ∃ m', m' < m ∧ I m' Γ'', ct := fun Γ'' => ∃ m', m' < m ∧ I m' Γ'', bk := fun Γ'' => SS X rest Γ'' O }) ∧ (k = false → SS X rest Γ' O))
    (hp : PassesOwn (model X.prog X.w) X.A X.env X.xe := by exact PassesOwn.never) : SS X (.While a body [] pos :: rest) Γ O :=
  ss_step (ps_while hp tta (ssa (ρ := ρ))) fun F0 H0 F D σ H ok q => by
    refine ⟨fun m σ' H' => ∃ F' Γ', I m Γ' ∧ Ok X.K F0 H0 F' H' σ' Γ' ∧ Same F F', ⟨m0, F, Γ, h0, ok, Same.refl _⟩, ?_⟩
    rintro m σ1 H1 ⟨F1, Γ1, hI, k1, s1⟩
    obtain ⟨b, hb, ht, hf⟩ := turn m Γ1 hI
    refine ⟨Γ1, b, hb, F0, H0, F1, k1, fun F2 H2 g2 => ?_⟩
    have s2 := s1.trans g2.ff
    cases b with
    | true =>
      refine iteT ⟨fun σ' H' => ∃ m', m' < m ∧ ∃ F' Γ', I m' Γ' ∧ Ok X.K F0 H0 F' H' σ' Γ' ∧ Same F F', fun σ' H' h => h, Γ1, _, ht rfl, F0, H0, F2, k1.grow g2, ?_⟩
      exact ⟨fun Γ3 σ3 F3 H3 ⟨m', hm, h3⟩ s3 k3 => ⟨m', hm, F3, Γ3, h3, k3, s2.trans s3⟩, q.rt, fun Γ3 σ3 F3 H3 h3 s3 k3 => ⟨Γ3, O, h3, F0, H0, F3, k3, q.step (s2.trans s3)⟩, fun Γ3 σ3 F3 H3 ⟨m', hm, h3⟩ s3 k3 => ⟨m', hm, F3, Γ3, h3, k3, s2.trans s3⟩⟩
    | false => exact iteF ⟨Γ1, O, hf rfl, F0, H0, F2, k1.grow g2, q.step s2⟩
end

/-! ### defs -/
def argOk (K : Frag) (F : Hp) (v : V) : Sl → Prop
  | .v c x => c.r K F v x
  | _ => False
inductive ArgsOk (K : Frag) (F : Hp) : List V → List Sl → Prop
  | nil : ArgsOk K F [] []
  | cons {v : V} {s : Sl} {vs : List V} {ss : List Sl} : argOk K F v s → ArgsOk K F vs ss → ArgsOk K F (v :: vs) (s :: ss)
theorem ArgsOk.length {K : Frag} {F : Hp} : ∀ {vs : List V} {ss : List Sl}, ArgsOk K F vs ss → vs.length = ss.length
  | _, _, .nil => rfl
  | _, _, .cons _ t => congrArg Nat.succ t.length
theorem ArgsOk.get {K : Frag} {F : Hp} : ∀ {xs : List V} {ys : List Sl} {i : Nat} {y : Sl}, ArgsOk K F xs ys → ys[i]? = some y → ∃ x, xs[i]? = some x ∧ argOk K F x y
  | _, _, _, _, .nil, e => by simp at e
  | _, _, 0, _, .cons r _, e => by simp at e; subst e; exact ⟨_, rfl, r⟩
  | _, _, i + 1, y, .cons _ t, e => by
    obtain ⟨u, h1, h2⟩ := ArgsOk.get (i := i) (y := y) t (by simpa using e)
    exact ⟨u, by simpa using h1, h2⟩
theorem argOk.mono {K : Frag} {F F' : Hp} (s : Same F F') {v : V} : ∀ {t : Sl}, argOk K F v t → argOk K F' v t
  | .v c _, h => c.mono s h
  | .un, h => h.elim
  | .ol _ _, h => h.elim
  | .od _ _, h => h.elim
  | .oc _ _ _, h => h.elim
  | .ox _ _, h => h.elim
def spZ (K : Frag) {ι ρ : Type} (As : ι → List Sl) (pre : ι → Prop) (c : ι → Rp ρ) (m : ι → ρ) : Sp := fun vs H Q _ => ∃ a F, Same F H ∧ ArgsOk K F vs (As a) ∧ pre a ∧ ∀ v F' H', Gr F H F' H' → (c a).r K F' v (m a) → Q v H'
theorem ok_start {K : Frag} {F H : Hp} {N : List Str} {vs : List V} {ss : List Sl} (s : Same F H) (h : ArgsOk K F vs ss) (hl : ss.length ≤ N.length) : Ok K F H F H (L2.start N vs) (ss ++ List.replicate (N.length - ss.length) .un) := by
  have hv := ArgsOk.length h
  unfold L2.start
  refine ⟨Gr.refl s, by simp [hv], fun i t ht => ?_, fun i j t u l hij hi hj ci cj => ?_⟩
  · by_cases hi : i < ss.length
    · rw [List.getElem?_append_left hi] at ht
      obtain ⟨v, h1, h2⟩ := ArgsOk.get h ht
      refine ⟨some v, by rw [List.getElem?_append_left (by simp; omega), List.getElem?_map, h1]; rfl, ?_⟩
      cases t with
      | v c x => exact ⟨v, rfl, h2⟩
      | un => exact h2.elim
      | ol _ _ => exact h2.elim
      | od _ _ => exact h2.elim
      | oc _ _ _ => exact h2.elim
      | ox _ _ => exact h2.elim
    · rw [List.getElem?_append_right (by omega), List.getElem?_replicate] at ht
      split at ht
      · cases ht
        refine ⟨none, ?_, trivial⟩
        rw [List.getElem?_append_right (by simp; omega), List.getElem?_replicate, if_pos (by simp; omega)]
      · cases ht
  · have nc : ∀ (i : Nat) (t : Sl), (ss ++ List.replicate (N.length - ss.length) Sl.un)[i]? = some t → t.cel = true → False := fun i t ht ct => by
      by_cases hi : i < ss.length
      · rw [List.getElem?_append_left hi] at ht
        obtain ⟨v, h1, h2⟩ := ArgsOk.get h ht
        cases t with
        | v c x => cases ct
        | un => exact h2.elim
        | ol _ _ => exact h2.elim
        | od _ _ => exact h2.elim
        | oc _ _ _ => exact h2.elim
        | ox _ _ => exact h2.elim
      · rw [List.getElem?_append_right (by omega), List.getElem?_replicate] at ht
        split at ht
        · cases ht
          cases ct
        · cases ht
    exact (nc i t hi ci).elim
def outR {ρ : Type} (c : Rp ρ) (m : ρ) : Out ρ := { nx := fun _ => False, c := c, rt := fun x => x = m }
theorem ct_ret {ρ : Type} {K : Frag} {F H : Hp} {c : Rp ρ} {m : ρ} {Q : VK} (h : ∀ v F' H', Gr F H F' H' → c.r K F' v m → Q v H') (nx : L2.St → Hp → Prop) : Ct K F H F (outR c m) { nx := nx, rt := Q } :=
  ⟨fun _ _ _ _ h => h.elim, fun x v F' H' e g r => by
    have e' : x = m := e
    subst e'
    exact h v F' H' g r, fun _ _ _ _ h => h.elim, fun _ _ _ _ h => h.elim⟩
section
variable {P : Program} {w : World} {K : PySem.W.Frag} {mg : Str → Option Value} {base : Heap} {ι ρ : Type} {As : ι → List Sl} {pre : ι → Prop} {c : ι → Rp ρ} {m : ι → ρ}
abbrev cxz (P : Program) (w : World) (K : PySem.W.Frag) (mg : Str → Option Value) (base : Heap) (N : List Str) (qual : Str) (sc : Scope) (f : Addr) (cdv : Value) (A : Around) (outer : List Env) (s : Shared) (H : Hp) (E : XK) : Cx :=
  (cxOf CX0 P w K mg base N qual sc f cdv A outer s H E).nox
theorem _root_.L2.Fun.z {x qual : Str} {st : Stmt} {f : Addr} {fd : FuncData} {N ps : List Str} {k : Nat} (F : Fun K x qual st f fd) (S : FnScope N ps (defScope st)) (hl : ∀ a, (As a).length = ps.length) (hz : ps.length ≤ N.length)
    (hb : ∀ a, pre a → ∀ (cdv : Value) (A : Around) (outer : List Env) (s : Shared) (H : Hp) (E : XK), Room k (A.deeper (envOfC qual (defScope st) s.heap.objs.size f cdv)) →
      SS (cxz P w K mg base N qual (defScope st) f cdv A outer s H E) (defBody st) (As a ++ List.replicate (N.length - ps.length) .un) (outR (c a) (m a))) : FnOk P w K mg base CX0 (k + 1) f fd ps (spZ K As pre c m) :=
  F.ok S (fun vs H Q E ⟨a, F', _, h, _⟩ => (ArgsOk.length h).trans (hl a)) fun cdv A outer s H vs Q E hr ⟨a, F', sF, h, hp, q⟩ => by
    refine ⟨_, hb a hp cdv A outer s H E hr, F', H, F', ?_, ct_ret q _⟩
    have := ok_start (N := N) sF h (by rw [hl]; exact hz)
    rw [hl] at this
    exact this
theorem _root_.L2.FunD.z {x qual : Str} {params : Arguments} {body : List Stmt} {scope : Scope} {dvs : List V} {kws : List (Str × V)} {f : Addr} {fd : FuncData} {N ps : List Str} {k : Nat} (F : FunD K x qual params body scope dvs kws f fd) (S : FnScope N ps scope) (hl : ∀ a, (As a).length = ps.length) (hz : ps.length ≤ N.length)
    (hb : ∀ a, pre a → ∀ (cdv : Value) (A : Around) (outer : List Env) (s : Shared) (H : Hp) (E : XK), Room k (A.deeper (envOfC qual scope s.heap.objs.size f cdv)) →
      SS (cxz P w K mg base N qual scope f cdv A outer s H E) body (As a ++ List.replicate (N.length - ps.length) .un) (outR (c a) (m a))) : FnOk P w K mg base CX0 (k + 1) f fd ps (spZ K As pre c m) :=
  F.ok S (fun vs H Q E ⟨a, F', _, h, _⟩ => (ArgsOk.length h).trans (hl a)) fun cdv A outer s H vs Q E hr ⟨a, F', sF, h, hp, q⟩ => by
    refine ⟨_, (hb a hp cdv A outer s H E hr).nox, F', H, F', ?_, ct_ret q _⟩
    have := ok_start (N := N) sF h (by rw [hl]; exact hz)
    rw [hl] at this
    exact this
end
/-- a def as it may be called by its name: the given arguments, then the defaults -/
structure Df (P : Program) (w : World) (K : PySem.W.Frag) (mg : Str → Option Value) (base : Heap) (k : Nat) (n : Str) {ι ρ : Type} (As : ι → List Sl) (pre : ι → Prop) (c : ι → Rp ρ) (m : ι → ρ) : Prop where
  ex : ∃ (f : Addr) (fd : FuncData) (ps : List Str) (As' : ι → List Sl) (dvs : List V) (ds : List Value), FnOk P w K mg base CX0 k f fd ps (spZ K As' pre c m) ∧ mg n = some (.ref f) ∧ PySem.W.keepIn K (.ref f) = true ∧ Vals dvs ds ∧ Binds K fd ps ds ∧
    ∀ a F vs, ArgsOk K F vs (As a) → ArgsOk K F (vs ++ dvs) (As' a)
theorem Df.of {P : Program} {w : World} {K : PySem.W.Frag} {mg : Str → Option Value} {base : Heap} {k : Nat} {n : Str} {ι ρ : Type} {As : ι → List Sl} {pre : ι → Prop} {c : ι → Rp ρ} {m : ι → ρ} {f : Addr} {fd : FuncData} {ps : List Str}
    (G : FnOk P w K mg base CX0 k f fd ps (spZ K As pre c m)) (hm : mg n = some (.ref f)) (hk : PySem.W.keepIn K (.ref f) = true) (hb : Binds K fd ps []) : Df P w K mg base k n As pre c m :=
  ⟨f, fd, ps, As, [], [], G, hm, hk, .nil, hb, fun a F vs h => by rw [List.append_nil]; exact h⟩
/-- arguments as slots -/
def tES (K : Frag) (Γ : List Sl) (ss : List Sl) : TA := fun σ H Q => ∃ F0 H0 F, Ok K F0 H0 F H σ Γ ∧ ∀ vs F' H', Gr F H F' H' → ArgsOk K F' vs ss → Q vs H'
abbrev ES (X : Cx) (es : List Expr) (Γ : List Sl) (ss : List Sl) : Prop := PA X es (tES X.K Γ ss)
section
variable {X : Cx} {Γ : List Sl} {e : Expr} {es : List Expr} {pos p : Pos} {α : Type} {c : Rp α} {x : α} {ss : List Sl}
theorem es_nil : ES X [] Γ [] := PA.imp pa_nil fun σ H Q ⟨F0, H0, F, ok, q⟩ => q [] F H (Gr.refl ok.sub) .nil
theorem es_cons (h : EV X e Γ c x) (hr : ES X es Γ ss) (hs : starEach (e :: es) X.env = (false, eval e X.env) :: starEach es X.env := by rfl) : ES X (e :: es) Γ (.v c x :: ss) :=
  PA.imp (pa_cons h hr hs) fun σ H Q ⟨F0, H0, F, ok, q⟩ => ⟨F0, H0, F, ok, fun v F1 H1 g1 p1 => ⟨F0, H0, F1, ok.grow g1, fun vs F2 H2 g2 p2 => q (v :: vs) F2 H2 (g1.trans g2) (.cons (c.mono g2.ff p1) p2)⟩⟩
theorem ev_call {n : Str} {k : Nat} {ι ρ : Type} {As : ι → List Sl} {pre : ι → Prop} {c : ι → Rp ρ} {m : ι → ρ} (G : Df X.prog X.w X.K X.mg X.base k n As pre c m) (hr : Room k X.A) (a : ι) (ha : ES X (e :: es) Γ (As a)) (hp : pre a)
    (hg : Gl X n := by rfl) (hdb : (n == ("__debug__" : Str)) = false := by decide) (he : starEach (e :: es) X.env = (false, eval e X.env) :: starEach es X.env := by rfl) (hpl : (backTo pos (starEach es X.env)).any (·.1) = false := by rfl) :
    EV X (.Call (.Name n p) (e :: es) [] pos) Γ (c a) (m a) := by
  obtain ⟨f, fd, ps, As', dvs, ds, G, hm, hk, hd, hb, hA⟩ := G.ex
  exact PE.imp (pe_call G hr hg hm hk hb hd pass0 ha hdb he hpl) fun σ H Q ⟨F0, H0, F, ok, q⟩ => ⟨F0, H0, F, ok, fun vs F1 H1 g1 p1 => ⟨a, F1, g1.sub, hA a F1 vs p1, hp, fun v F2 H2 g2 r => q v F2 H2 (g1.trans g2) r⟩⟩
end
end Z

set_option Elab.async false
set_option linter.all false
set_option maxRecDepth 100000
set_option maxHeartbeats 4000000
/-! Zed: == of data, dicts, repeated lists. -/
namespace Z
open PySem PySem.Spec PyProof.Rows L2

/-! ### data as a whole -/
structure Dt {α : Type} (c : Rp α) where
  d : α → PyData
  good : α → Prop
  dp : ∀ {K F v x}, c.r K F v x → Dp K F v (d x)
  lay : ∀ x, good x → (d x).canLay0 = true
  n : Nat
  dep : ∀ x, (d x).depth ≤ n
  eqv : ∀ x y, PyData.eqv (d x) (d y) = true ↔ x = y
theorem Dt.shaped {α : Type} {c : Rp α} (D : Dt c) (hn : D.n ≤ 64) {x : α} (h : D.good x) : SeqAt.shaped (D.d x) = true := by
  show ((D.d x).canLay0 && decide ((D.d x).depth ≤ 64)) = true
  rw [Bool.and_eq_true]
  exact ⟨D.lay x h, decide_eq_true (Nat.le_trans (D.dep x) hn)⟩
theorem Dt.dec {α : Type} [DecidableEq α] {c : Rp α} (D : Dt c) (x y : α) : PyData.eqv (D.d x) (D.d y) = decide (x = y) := by
  by_cases h : x = y
  · rw [decide_eq_true h]
    exact (D.eqv x y).mpr h
  · rw [decide_eq_false h]
    cases e : PyData.eqv (D.d x) (D.d y) with
    | true => exact absurd ((D.eqv x y).mp e) h
    | false => rfl
def dInt : Dt rInt where
  d := .int
  good := fun _ => True
  dp := fun h => by
    cases (show _ = _ from h)
    exact .int _
  lay := fun _ _ => rfl
  n := 1
  dep := fun _ => by simp [PyData.depth]
  eqv := fun x y => by simp [PyData.eqv]
def dBool : Dt rBool where
  d := .bool
  good := fun _ => True
  dp := fun h => by
    cases (show _ = _ from h)
    exact .bl _
  lay := fun _ _ => rfl
  n := 1
  dep := fun _ => by simp [PyData.depth]
  eqv := fun x y => by simp [PyData.eqv]
def dTx : Dt rTx where
  d := fun l => .str (tx l)
  good := fun l => ∀ c ∈ l, c < 0x110000
  dp := fun h => by
    cases (show _ = _ from h)
    exact .str _
  lay := fun l h => by
    show ((tx l).cps.all fun c => decide (c < 0x110000)) = true
    rw [← Array.all_toList, List.all_eq_true]
    intro c hc
    rw [tx_toList] at hc
    exact decide_eq_true (h c hc)
  n := 1
  dep := fun _ => by simp [PyData.depth]
  eqv := fun x y => by
    simp only [PyData.eqv, beq_iff_eq]
    exact ⟨tx_inj, fun h => h ▸ rfl⟩
theorem dpAll_of {α : Type} {c : Rp α} (D : Dt c) {K : Frag} {F : Hp} : ∀ {vs : List V} {xs : List α}, PL c K F vs xs → DpAll K F vs (xs.map D.d)
  | _, _, .nil => .nil
  | _, _, .cons r t => .cons (D.dp r) (dpAll_of D t)
theorem layAll_of {α : Type} {c : Rp α} (D : Dt c) : ∀ {xs : List α}, (∀ x ∈ xs, D.good x) → PyData.canLayAll0 (xs.map D.d) = true
  | [], _ => by simp [PyData.canLayAll0]
  | x :: xs, h => by
    have i1 := D.lay x (h x (List.mem_cons_self ..))
    have i2 := layAll_of D fun y hy => h y (List.mem_cons_of_mem _ hy)
    simp [PyData.canLayAll0, i1, i2]
theorem depAll_of {α : Type} {c : Rp α} (D : Dt c) : ∀ xs : List α, PyData.depthAll (xs.map D.d) ≤ D.n
  | [] => by simp [PyData.depthAll]
  | x :: xs => by
    have h1 := D.dep x
    have h2 := depAll_of D xs
    simp only [List.map_cons, PyData.depthAll]
    omega
theorem eqvAll_of {α : Type} {c : Rp α} (D : Dt c) : ∀ xs ys : List α, PyData.eqvAll (xs.map D.d) (ys.map D.d) = true ↔ xs = ys
  | [], [] => by simp [PyData.eqvAll]
  | [], _ :: _ => by simp [PyData.eqvAll]
  | _ :: _, [] => by simp [PyData.eqvAll]
  | x :: xs, y :: ys => by
    have h1 := D.eqv x y
    have h2 := eqvAll_of D xs ys
    simp only [List.map_cons, PyData.eqvAll, Bool.and_eq_true, h1, h2, List.cons.injEq]
def dT {α : Type} {c : Rp α} (D : Dt c) : Dt (rT c) where
  d := fun xs => .tuple (xs.map D.d)
  good := fun xs => ∀ x ∈ xs, D.good x
  dp := fun ⟨a, vs, e, h, p⟩ => by
    subst e
    exact .tup h (dpAll_of D p)
  lay := fun xs h => by
    simp only [PyData.canLay0]
    exact layAll_of D h
  n := D.n + 1
  dep := fun xs => by
    have := depAll_of D xs
    simp only [PyData.depth]
    omega
  eqv := fun x y => by
    simp only [PyData.eqv]
    exact eqvAll_of D x y
def dL {α : Type} {c : Rp α} (D : Dt c) : Dt (rL c) where
  d := fun xs => .list (xs.map D.d)
  good := fun xs => ∀ x ∈ xs, D.good x
  dp := fun ⟨a, vs, e, h, p⟩ => by
    subst e
    exact .lst (SqL.of h) (dpAll_of D p)
  lay := fun xs h => by
    simp only [PyData.canLay0]
    exact layAll_of D h
  n := D.n + 1
  dep := fun xs => by
    have := depAll_of D xs
    simp only [PyData.depth]
    omega
  eqv := fun x y => by
    simp only [PyData.eqv]
    exact eqvAll_of D x y
def d2 {α β : Type} {c : Rp α} {k : Rp β} (D : Dt c) (E : Dt k) : Dt (r2 c k) where
  d := fun x => .tuple [D.d x.1, E.d x.2]
  good := fun x => D.good x.1 ∧ E.good x.2
  dp := fun ⟨a, v1, v2, e, h, p, q⟩ => by
    subst e
    exact .tup h (.cons (D.dp p) (.cons (E.dp q) .nil))
  lay := fun x h => by simp [PyData.canLay0, PyData.canLayAll0, D.lay _ h.1, E.lay _ h.2]
  n := max D.n E.n + 1
  dep := fun x => by
    have h1 := D.dep x.1
    have h2 := E.dep x.2
    simp only [PyData.depth, PyData.depthAll]
    omega
  eqv := fun x y => by
    obtain ⟨x1, x2⟩ := x
    obtain ⟨y1, y2⟩ := y
    simp only [PyData.eqv, PyData.eqvAll, Bool.and_eq_true, D.eqv, E.eqv, Prod.mk.injEq, and_true]
def d3 {α β γ : Type} {c : Rp α} {k : Rp β} {l : Rp γ} (D : Dt c) (E : Dt k) (G : Dt l) : Dt (r3 c k l) where
  d := fun x => .tuple [D.d x.1, E.d x.2.1, G.d x.2.2]
  good := fun x => D.good x.1 ∧ E.good x.2.1 ∧ G.good x.2.2
  dp := fun ⟨a, v1, v2, v3, e, h, p, q, z⟩ => by
    subst e
    exact .tup h (.cons (D.dp p) (.cons (E.dp q) (.cons (G.dp z) .nil)))
  lay := fun x h => by simp [PyData.canLay0, PyData.canLayAll0, D.lay _ h.1, E.lay _ h.2.1, G.lay _ h.2.2]
  n := max D.n (max E.n G.n) + 1
  dep := fun x => by
    have h1 := D.dep x.1
    have h2 := E.dep x.2.1
    have h3 := G.dep x.2.2
    simp only [PyData.depth, PyData.depthAll]
    omega
  eqv := fun x y => by
    obtain ⟨x1, x2, x3⟩ := x
    obtain ⟨y1, y2, y3⟩ := y
    simp only [PyData.eqv, PyData.eqvAll, Bool.and_eq_true, D.eqv, E.eqv, G.eqv, Prod.mk.injEq, and_true]

section
variable {X : Cx} {Γ : List Sl} {a b e : Expr} {es : List Expr} {pos p : Pos} {α β γ : Type} [DecidableEq α] {c : Rp α} {d : Rp β} {k : Rp γ} {x x' : α} {y : β}
theorem ev_eqD {kk : Nat} (D : Dt c) (hr : Room kk X.A) (ha : EV X a Γ c x) (hb : EV X b Γ c x') (h1 : D.good x) (h2 : D.good x') (hn : D.n ≤ 64 := by decide) : EV X (.Compare a [.Eq] [b] pos) Γ rBool (decide (x = x')) :=
  ez_bin (pe_cmpR (op_eqD hr.units) ha hb (nomark _)) fun F H v w Q s q1 q2 z => ⟨_, _, D.dp (c.mono s q1), D.dp (c.mono s q2), D.shaped hn h1, D.shaped hn h2, z _ F H (Gr.refl s) (by rw [D.dec]; rfl)⟩
theorem ev_neD {kk : Nat} (D : Dt c) (hr : Room kk X.A) (ha : EV X a Γ c x) (hb : EV X b Γ c x') (h1 : D.good x) (h2 : D.good x') (hn : D.n ≤ 64 := by decide) : EV X (.Compare a [.NotEq] [b] pos) Γ rBool (!decide (x = x')) :=
  ez_bin (pe_cmpR (op_neD hr.units) ha hb (nomark _)) fun F H v w Q s q1 q2 z => ⟨_, _, D.dp (c.mono s q1), D.dp (c.mono s q2), D.shaped hn h1, D.shaped hn h2, z _ F H (Gr.refl s) (by rw [D.dec]; rfl)⟩
theorem eb_eqD {kk : Nat} (D : Dt c) (hr : Room kk X.A) (ha : EV X a Γ c x) (hb : EV X b Γ c x') (h1 : D.good x) (h2 : D.good x') (hn : D.n ≤ 64 := by decide) : EB X (.Compare a [.Eq] [b] pos) Γ (decide (x = x')) :=
  eb_cmp (op_eqD hr.units) ha hb (nomark _) fun F H v w Q s q1 q2 z => ⟨_, _, D.dp (c.mono s q1), D.dp (c.mono s q2), D.shaped hn h1, D.shaped hn h2, by rw [D.dec]; exact z⟩
theorem eb_neD {kk : Nat} (D : Dt c) (hr : Room kk X.A) (ha : EV X a Γ c x) (hb : EV X b Γ c x') (h1 : D.good x) (h2 : D.good x') (hn : D.n ≤ 64 := by decide) : EB X (.Compare a [.NotEq] [b] pos) Γ (!decide (x = x')) :=
  eb_cmp (op_neD hr.units) ha hb (nomark _) fun F H v w Q s q1 q2 z => ⟨_, _, D.dp (c.mono s q1), D.dp (c.mono s q2), D.shaped hn h1, D.shaped hn h2, by rw [D.dec]; exact z⟩
theorem any_dec (D : Dt c) (x : α) : ∀ xs : List α, ((xs.map D.d).any fun z => PyData.eqv z (D.d x)) = decide (x ∈ xs)
  | [] => by simp
  | y :: ys => by
    rw [List.map_cons, List.any_cons, any_dec D x ys, D.dec]
    by_cases h : y = x
    · simp [h]
    · have : ¬ x = y := fun e => h e.symm
      simp [h, this]
/-- x in xs, a frozen list of data -/
theorem eb_inDL {kk : Nat} {xs : List α} (D : Dt c) (hr : Room kk X.A) (ha : EV X a Γ c x) (hb : EV X b Γ (rL c) xs) (h1 : D.good x) (h2 : ∀ y ∈ xs, D.good y) (hn : D.n ≤ 63 := by decide) (hm : behindInMarks .In b = false := by with_unfolding_all rfl) :
    EB X (.Compare a [.In] [b] pos) Γ (decide (x ∈ xs)) :=
  eb_cmp (op_inD (by have := hr.un; omega)) ha hb hm fun F H v w Q s q1 q2 z => ⟨_, xs.map D.d, D.dp (c.mono s q1), (dL D).dp ((rL c).mono s q2), D.shaped (by omega) h1, (dL D).shaped (show D.n + 1 ≤ 64 by omega) h2, by rw [any_dec]; exact z⟩
theorem eb_ninDL {kk : Nat} {xs : List α} (D : Dt c) (hr : Room kk X.A) (ha : EV X a Γ c x) (hb : EV X b Γ (rL c) xs) (h1 : D.good x) (h2 : ∀ y ∈ xs, D.good y) (hn : D.n ≤ 63 := by decide) (hm : behindInMarks .NotIn b = false := by with_unfolding_all rfl) :
    EB X (.Compare a [.NotIn] [b] pos) Γ (!decide (x ∈ xs)) :=
  eb_cmp (op_notInD (by have := hr.un; omega)) ha hb hm fun F H v w Q s q1 q2 z => ⟨_, xs.map D.d, D.dp (c.mono s q1), (dL D).dp ((rL c).mono s q2), D.shaped (by omega) h1, (dL D).shaped (show D.n + 1 ≤ 64 by omega) h2, by rw [any_dec]; exact z⟩
end

/-! ### tables -/
section
variable {κ : Type} [DecidableEq κ] {α : Type}
def dlook (kvs : List (κ × α)) (k : κ) : Option α := (kvs.find? fun kv => decide (kv.1 = k)).map (·.2)
def dput (kvs : List (κ × α)) (k : κ) (v : α) : List (κ × α) :=
  if (kvs.any fun kv => decide (kv.1 = k)) = true then kvs.map (fun kv => if kv.1 = k then (kv.1, v) else kv) else kvs ++ [(k, v)]
theorem dlook_nil {k : κ} : dlook ([] : List (κ × α)) k = none := rfl
theorem dlook_pos {p : κ × α} {r : List (κ × α)} {k : κ} (e : p.1 = k) : dlook (p :: r) k = some p.2 := by simp [dlook, List.find?_cons, e]
theorem dlook_neg {p : κ × α} {r : List (κ × α)} {k : κ} (e : ¬ p.1 = k) : dlook (p :: r) k = dlook r k := by simp [dlook, List.find?_cons, e]
theorem dlook_any (k : κ) : ∀ kvs : List (κ × α), (kvs.any fun kv => decide (kv.1 = k)) = (dlook kvs k).isSome
  | [] => rfl
  | p :: r => by
    rw [List.any_cons]
    by_cases e : p.1 = k
    · simp only [dlook_pos e, decide_eq_true e, Bool.true_or, Option.isSome_some]
    · rw [dlook_neg e, decide_eq_false e, Bool.false_or]; exact dlook_any k r
theorem dlook_map (k j : κ) (y : α) : ∀ kvs : List (κ × α), dlook (kvs.map fun kv => if kv.1 = k then (kv.1, y) else kv) j = (dlook kvs j).map fun x => if j = k then y else x
  | [] => rfl
  | p :: r => by
    have ih := dlook_map k j y r
    rw [List.map_cons]
    by_cases h : p.1 = k
    · rw [if_pos h]
      by_cases e : p.1 = j
      · rw [dlook_pos (p := (p.1, y)) e, dlook_pos e, Option.map_some, if_pos (e.symm.trans h)]
      · rw [dlook_neg (p := (p.1, y)) e, dlook_neg e, ih]
    · rw [if_neg h]
      by_cases e : p.1 = j
      · rw [dlook_pos (p := p) e, dlook_pos e, Option.map_some, if_neg (fun z => h (e.trans z))]
      · rw [dlook_neg (p := p) e, dlook_neg e, ih]
theorem dlook_snoc (k j : κ) (y : α) : ∀ kvs : List (κ × α), dlook kvs k = none → dlook (kvs ++ [(k, y)]) j = if j = k then some y else dlook kvs j
  | [], _ => by
    by_cases e : k = j
    · rw [if_pos e.symm]; exact dlook_pos (p := (k, y)) e
    · rw [if_neg (fun z => e z.symm)]; exact dlook_neg (p := (k, y)) e
  | p :: r, hn => by
    rw [List.cons_append]
    have hk : ¬ p.1 = k := fun z => by rw [dlook_pos z] at hn; cases hn
    rw [dlook_neg hk] at hn
    have ih := dlook_snoc k j y r hn
    by_cases e : p.1 = j
    · rw [dlook_pos e, dlook_pos e, if_neg (fun z => hk (e.trans z))]
    · rw [dlook_neg e, dlook_neg e, ih]
theorem dlook_put (kvs : List (κ × α)) (k j : κ) (y : α) : dlook (dput kvs k y) j = if j = k then some y else dlook kvs j := by
  unfold dput
  rw [dlook_any]
  cases h : dlook kvs k with
  | none => simp only [Option.isSome_none, Bool.false_eq_true, if_false]; exact dlook_snoc k j y kvs h
  | some v =>
    simp only [Option.isSome_some, if_true]
    rw [dlook_map]
    by_cases e : j = k
    · subst e; rw [h]; simp
    · simp [e]
theorem dput_keys (kvs : List (κ × α)) (k : κ) (y : α) : (dput kvs k y).map (·.1) = if (dlook kvs k).isSome = true then kvs.map (·.1) else kvs.map (·.1) ++ [k] := by
  unfold dput
  rw [dlook_any]
  by_cases h : (dlook kvs k).isSome = true
  · rw [if_pos h, if_pos h, List.map_map]
    apply List.map_congr_left
    intro p _
    show (if p.1 = k then (p.1, y) else p).1 = p.1
    split <;> rfl
  · rw [if_neg h, if_neg h, List.map_append]
    rfl
theorem dput_len (kvs : List (κ × α)) (k : κ) (y : α) : (dput kvs k y).length ≤ kvs.length + 1 := by
  unfold dput
  split
  · simp
  · simp
theorem dlook_mem {kvs : List (κ × α)} {k : κ} {v : α} (h : dlook kvs k = some v) : (k, v) ∈ kvs := by
  unfold dlook at h
  cases e : kvs.find? fun kv => decide (kv.1 = k) with
  | none =>
    rw [e] at h
    cases h
  | some p =>
    rw [e] at h
    have h1 := List.mem_of_find?_eq_some e
    have h2 : p.1 = k := of_decide_eq_true (List.find?_some (p := fun kv : κ × α => decide (kv.1 = k)) e)
    have h3 : p.2 = v := Option.some.inj h
    rw [← h2, ← h3]
    exact h1
theorem dlook_isSome {kvs : List (κ × α)} {k : κ} : (dlook kvs k).isSome = true ↔ k ∈ kvs.map (·.1) := by
  rw [← dlook_any, List.any_eq_true]
  constructor
  · rintro ⟨p, hp, e⟩
    exact List.mem_map.mpr ⟨p, hp, of_decide_eq_true e⟩
  · intro h
    obtain ⟨p, hp, e⟩ := List.mem_map.mp h
    exact ⟨p, hp, decide_eq_true e⟩
theorem dput_nodup {kvs : List (κ × α)} (k : κ) (y : α) (h : (kvs.map (·.1)).Nodup) : ((dput kvs k y).map (·.1)).Nodup := by
  rw [dput_keys]
  by_cases e : (dlook kvs k).isSome = true
  · rw [if_pos e]
    exact h
  · rw [if_neg e]
    exact nd_snoc h fun m => e (dlook_isSome.mpr m)
end

/-- keys that are texts, ints -/
def kT (l : List Nat) : Key := .inr (tx l)
def kI (i : Int) : Key := .inl i
theorem kT_inj {a b : List Nat} (h : kT a = kT b) : a = b := tx_inj (Sum.inr.inj h)
theorem kI_inj {a b : Int} (h : kI a = kI b) : a = b := Sum.inl.inj h
def odT {α : Type} (c : Rp α) (kvs : List (List Nat × α)) : Sl := .od c (kvs.map fun p => (kT p.1, p.2))
def odI {α : Type} (c : Rp α) (kvs : List (Int × α)) : Sl := .od c (kvs.map fun p => (kI p.1, p.2))
section
variable {κ α : Type} [DecidableEq κ] {kf : κ → Key} (hk : ∀ a b, kf a = kf b → a = b) {c : Rp α} {K : Frag} {F : Hp}
abbrev PD (c : Rp α) (K : Frag) (F : Hp) (ps : List (Key × V)) (kvs : List (Key × α)) : Prop := Paired (fun (p : Key × V) q => p.1 = q.1 ∧ c.r K F p.2 q.2) ps kvs
include hk in
theorem pd_look {k : κ} : ∀ {kvs : List (κ × α)} {ps : List (Key × V)}, PD c K F ps (kvs.map fun p => (kf p.1, p.2)) → (valV ps (kf k) = none ∧ dlook kvs k = none) ∨ ∃ v x, valV ps (kf k) = some v ∧ dlook kvs k = some x ∧ c.r K F v x
  | [], _, .nil => .inl ⟨rfl, rfl⟩
  | q :: kvs, _, .cons (a := p) r t => by
    by_cases e : q.1 = k
    · refine .inr ⟨p.2, q.2, valV_pos (r.1.trans (congrArg kf e)), dlook_pos e, r.2⟩
    · have e' : ¬ p.1 = kf k := fun z => e (hk _ _ (r.1.symm.trans z))
      rw [valV_neg e', dlook_neg e]
      exact pd_look t
include hk in
theorem pd_any {k : κ} {kvs : List (κ × α)} {ps : List (Key × V)} (h : PD c K F ps (kvs.map fun p => (kf p.1, p.2))) : (ps.any fun kv => decide (kv.1 = kf k)) = kvs.any fun kv => decide (kv.1 = k) := by
  rw [valV_any, dlook_any]
  rcases pd_look hk (k := k) h with ⟨h1, h2⟩ | ⟨v, x, h1, h2, _⟩
  · rw [h1, h2]; rfl
  · rw [h1, h2]; rfl
include hk in
theorem pd_put {k : κ} {v : V} {x : α} (r : c.r K F v x) {kvs : List (κ × α)} {ps : List (Key × V)} (h : PD c K F ps (kvs.map fun p => (kf p.1, p.2))) : PD c K F (putK ps (kf k) v) ((dput kvs k x).map fun p => (kf p.1, p.2)) := by
  unfold putK dput
  rw [pd_any hk h]
  by_cases e : (kvs.any fun kv => decide (kv.1 = k)) = true
  · rw [if_pos e, if_pos e]
    clear e
    induction kvs generalizing ps with
    | nil =>
      cases h
      exact .nil
    | cons q kvs ih =>
      cases h with
      | @cons p _ _ _ r' t =>
        refine .cons ?_ (ih t)
        by_cases e : q.1 = k
        · have e' : p.1 = kf k := r'.1.trans (congrArg kf e)
          dsimp only
          rw [if_pos e', if_pos e]
          exact ⟨r'.1, r⟩
        · have e' : ¬ p.1 = kf k := fun z => e (hk _ _ (r'.1.symm.trans z))
          dsimp only
          rw [if_neg e', if_neg e]
          exact r'
  · rw [if_neg e, if_neg e, List.map_append]
    exact Paired.append h (.cons ⟨rfl, r⟩ .nil)
theorem pd_keys : ∀ {kvs : List (Key × α)} {ps : List (Key × V)}, PD c K F ps kvs → ps.map (·.1) = kvs.map (·.1)
  | [], _, .nil => rfl
  | _ :: _, _, .cons r t => by
    rw [List.map_cons, List.map_cons, r.1, pd_keys t]
end

section
variable {ρ : Type} {X : Cx} {Γ : List Sl} {O : Out ρ} {a b e : Expr} {es : List Expr} {rest : List Stmt} {pos p p2 p3 : Pos} {α β γ : Type} {c : Rp α} {d : Rp β} {k : Rp γ} {x x' : α} {y : β}
theorem eo_dict : EO X (.Dict [] [] pos) Γ (.od c []) :=
  PE.imp pe_dnewK fun σ H Q ⟨F0, H0, F, ok, q⟩ t ht => q t _ F _ (Gr.hold ok.sub ht) (none_of_same ok.sub ht) ht upd_same ⟨[], rfl, .nil⟩
theorem eo_dictT : EO X (.Dict [] [] pos) Γ (odT c []) := eo_dict
theorem eo_dictI : EO X (.Dict [] [] pos) Γ (odI c []) := eo_dict
/-- the dict in a slot: its name gives its address -/
theorem tvar_cell {Γ : List Sl} {K : Frag} {F0 H0 F H : Hp} {σ : St} {i : Nat} {kvs : List (Key × α)} (ok : Ok K F0 H0 F H σ Γ) (h : Γ[i]? = some (.od c kvs)) : ∃ l ps, σ[i]? = some (some (.ref l)) ∧ H l = some (.dK ps) ∧ F l = none ∧ H0 l = none ∧ PD c K F ps kvs := by
  obtain ⟨l, hl, ca⟩ := ok.cell h rfl
  obtain ⟨ho, hH, ps, eo, pd⟩ := ca.o
  subst eo
  exact ⟨l, ps, hl, hH, ca.f, ca.h0, pd⟩
variable {κ : Type} [DecidableEq κ] {kf : κ → Key} {ck : Rp κ} {kvs : List (κ × α)} {j : κ} {n : Str}
/-- keys by their codec -/
structure Ky (ck : Rp κ) (kf : κ → Key) : Prop where
  v : ∀ {K F v x}, ck.r K F v x → v = kV (kf x)
  inj : ∀ a b, kf a = kf b → a = b
theorem kyT : Ky rTx kT := ⟨fun h => h, fun _ _ => kT_inj⟩
theorem kyI : Ky rInt kI := ⟨fun h => h, fun _ _ => kI_inj⟩
/-- j in d, d a dict in the slot i -/
theorem eb_inK {kk : Nat} (ky : Ky ck kf) (i : Nat) (hr : Room kk X.A) (ha : EV X a Γ ck j) (hi : Γ[i]? = some (.od c (kvs.map fun p => (kf p.1, p.2)))) (hN : X.N[i]? = some n := by rfl)
    (hv : Vis X.env.scope n := by first | exact Or.inl rfl | exact Or.inr (Or.inl rfl) | exact Or.inr (Or.inr rfl))
    (hd : (n == ("__debug__" : Str)) = false := by decide) (hcd : (n == ("__classdict__" : Str)) = false := by decide) (hm : behindInMarks .In (.Name n p) = false := by with_unfolding_all rfl) :
    EB X (.Compare a [.In] [.Name n p] pos) Γ (dlook kvs j).isSome :=
  PT.imp (pt_cmp (pc_din (hu_of hr) ha (pv i hN hv hd hcd)) hm) fun σ H Q ⟨F0, H0, F, ok, q⟩ => ⟨F0, H0, F, ok, fun v F1 H1 g1 r => by
    have ok1 := ok.grow g1
    obtain ⟨l, ps, hl, hH, _, _, pd⟩ := tvar_cell ok1 hi
    have ev : v = kV (kf j) := ky.v r
    subst ev
    refine ⟨_, hl, l, _, rfl, DGet.k hH, _, rfl, ?_⟩
    have : (valV ps (kf j)).isSome = (dlook kvs j).isSome := by
      rcases pd_look ky.inj (k := j) pd with ⟨h1, h2⟩ | ⟨u, x, h1, h2, _⟩
      · rw [h1, h2]; rfl
      · rw [h1, h2]; rfl
    rw [this]
    exact q F1 H1 g1⟩
theorem eb_ninK {kk : Nat} (ky : Ky ck kf) (i : Nat) (hr : Room kk X.A) (ha : EV X a Γ ck j) (hi : Γ[i]? = some (.od c (kvs.map fun p => (kf p.1, p.2)))) (hN : X.N[i]? = some n := by rfl)
    (hv : Vis X.env.scope n := by first | exact Or.inl rfl | exact Or.inr (Or.inl rfl) | exact Or.inr (Or.inr rfl))
    (hd : (n == ("__debug__" : Str)) = false := by decide) (hcd : (n == ("__classdict__" : Str)) = false := by decide) (hm : behindInMarks .NotIn (.Name n p) = false := by with_unfolding_all rfl) :
    EB X (.Compare a [.NotIn] [.Name n p] pos) Γ (!(dlook kvs j).isSome) :=
  PT.imp (pt_cmp (pc_dnotin (hu_of hr) ha (pv i hN hv hd hcd)) hm) fun σ H Q ⟨F0, H0, F, ok, q⟩ => ⟨F0, H0, F, ok, fun v F1 H1 g1 r => by
    have ok1 := ok.grow g1
    obtain ⟨l, ps, hl, hH, _, _, pd⟩ := tvar_cell ok1 hi
    have ev : v = kV (kf j) := ky.v r
    subst ev
    refine ⟨_, hl, l, _, rfl, DGet.k hH, _, rfl, ?_⟩
    have : (valV ps (kf j)).isSome = (dlook kvs j).isSome := by
      rcases pd_look ky.inj (k := j) pd with ⟨h1, h2⟩ | ⟨u, x, h1, h2, _⟩
      · rw [h1, h2]; rfl
      · rw [h1, h2]; rfl
    rw [this]
    exact q F1 H1 g1⟩
/-- d[j] -/
theorem ev_getK {kk : Nat} (ky : Ky ck kf) (i : Nat) (hr : Room kk X.A) (ha : EV X a Γ ck j) (hi : Γ[i]? = some (.od c (kvs.map fun p => (kf p.1, p.2)))) (hx : dlook kvs j = some x) (hN : X.N[i]? = some n := by rfl)
    (hv : Vis X.env.scope n := by first | exact Or.inl rfl | exact Or.inr (Or.inl rfl) | exact Or.inr (Or.inr rfl))
    (hd : (n == ("__debug__" : Str)) = false := by decide) (hcd : (n == ("__classdict__" : Str)) = false := by decide) (hs : NoSl a := by intro _ _; rfl) :
    EV X (.Subscript (.Name n p) a pos) Γ c x :=
  PE.imp (pe_dget (hu_of hr) (pv i hN hv hd hcd) ha hs) fun σ H Q ⟨F0, H0, F, ok, q⟩ => by
    obtain ⟨l, ps, hl, hH, _, _, pd⟩ := tvar_cell ok hi
    refine ⟨_, hl, F0, H0, F, ok, fun v F1 H1 g1 r => ?_⟩
    have ev : v = kV (kf j) := ky.v r
    subst ev
    have pd1 : PD c X.K F1 ps _ := Paired.mapP pd fun _ _ h => ⟨h.1, c.mono g1.ff h.2⟩
    rcases pd_look ky.inj (k := j) pd1 with ⟨h1, h2⟩ | ⟨u, x', h1, h2, r'⟩
    · rw [hx] at h2
      cases h2
    · rw [hx] at h2
      cases h2
      exact ⟨l, u, rfl, by rw [← h1]; exact DGet.k (g1.hh _ _ hH), q u F1 H1 g1 r'⟩
/-- d.get(j, e) -/
theorem ev_getOr {kk : Nat} (ky : Ky ck kf) (i : Nat) (hr : Room kk X.A) (ha : EV X a Γ ck j) (hb : EV X b Γ c x) (hi : Γ[i]? = some (.od c (kvs.map fun p => (kf p.1, p.2)))) (m : M2 X (.Name n p) "get" p2 a b p3) (hN : X.N[i]? = some n := by rfl)
    (hv : Vis X.env.scope n := by first | exact Or.inl rfl | exact Or.inr (Or.inl rfl) | exact Or.inr (Or.inr rfl))
    (hd : (n == ("__debug__" : Str)) = false := by decide) (hcd : (n == ("__classdict__" : Str)) = false := by decide) :
    EV X (.Call (.Attribute (.Name n p) "get" p2) [a, b] [] p3) Γ c ((dlook kvs j).getD x) :=
  PE.imp (pe_dget2 (hu_of hr) (pv i hN hv hd hcd) ha hb m) fun σ H Q ⟨F0, H0, F, ok, q⟩ => by
    obtain ⟨l, ps, hl, hH, _, _, pd⟩ := tvar_cell ok hi
    refine ⟨_, hl, l, rfl, .inl ⟨ps, .inl hH⟩, F0, H0, F, ok, fun v F1 H1 g1 r => ⟨F0, H0, F1, ok.grow g1, fun w F2 H2 g2 r2 => ?_⟩⟩
    have ev : v = kV (kf j) := ky.v r
    subst ev
    have gg := g1.trans g2
    have pd1 : PD c X.K F2 ps _ := Paired.mapP pd fun _ _ h => ⟨h.1, c.mono gg.ff h.2⟩
    refine ⟨_, DGet.k (gg.hh _ _ hH), ?_⟩
    rcases pd_look ky.inj (k := j) pd1 with ⟨h1, h2⟩ | ⟨u, x', h1, h2, r'⟩
    · rw [h1]
      rw [h2] at q
      exact q w F2 H2 gg r2
    · rw [h1]
      rw [h2] at q
      exact q u F2 H2 gg r'
/-- d[j] = e -/
theorem ss_putK {kk : Nat} (ky : Ky ck kf) (i : Nat) (hr : Room kk X.A) (he : EV X e Γ c x) (ha : EV X a Γ ck j) (hi : Γ[i]? = some (.od c (kvs.map fun p => (kf p.1, p.2)))) (hz : kvs.length < 16777216)
    (h : SS X rest (Γ.set i (.od c ((dput kvs j x).map fun p => (kf p.1, p.2)))) O) (hN : X.N[i]? = some n := by rfl)
    (hv : Vis X.env.scope n := by first | exact Or.inl rfl | exact Or.inr (Or.inl rfl) | exact Or.inr (Or.inr rfl))
    (hd : (n == ("__debug__" : Str)) = false := by decide) (hcd : (n == ("__classdict__" : Str)) = false := by decide)
    (hs : swapsWith e (some (.Subscript (.Name n p) a p2)) pos.line X.env = pure false := by rfl) : SS X (.Assign [.Subscript (.Name n p) a p2] e pos :: rest) Γ O :=
  ss_step (ps_dput (hu_of hr) (pv i hN hv hd hcd) ha he hs) fun F0 H0 F D σ H ok q => by
    refine ⟨F0, H0, F, ok, fun v F1 H1 g1 r => ?_⟩
    obtain ⟨l, ps, hl, hH, _, _, pd⟩ := tvar_cell (ok.grow g1) hi
    refine ⟨_, hl, F0, H0, F1, ok.grow g1, fun w F2 H2 g2 r2 => ?_⟩
    have ev : w = kV (kf j) := ky.v r2
    subst ev
    have ok2 := (ok.grow g1).grow g2
    have pd2 : PD c X.K F2 ps _ := Paired.mapP pd fun _ _ h => ⟨h.1, c.mono g2.ff h.2⟩
    have hlen : ps.length = kvs.length := by rw [Paired.length pd2, List.length_map]
    refine ⟨l, _, rfl, DPut.k (g2.hh _ _ hH) (by rw [hlen, sizeLine_eq]; exact hz), _, O, h, F0, H0, F2, ?_, q.step (g1.ff.trans g2.ff)⟩
    exact ok2.write hi rfl hl ⟨_, rfl, pd_put ky.inj (c.mono g2.ff r) pd2⟩
/-- list(d), d a dict in a slot -/
theorem eo_listK (ky : ∀ {K F} x, ck.r K F (kV (kf x)) x) (i : Nat) (hm : X.mg "list" = none) (hi : Γ[i]? = some (.od c (kvs.map fun p => (kf p.1, p.2)))) (hN : X.N[i]? = some n := by rfl)
    (hv : Vis X.env.scope n := by first | exact Or.inl rfl | exact Or.inr (Or.inl rfl) | exact Or.inr (Or.inr rfl))
    (hd : (n == ("__debug__" : Str)) = false := by decide) (hcd : (n == ("__classdict__" : Str)) = false := by decide) (hc : X.calm = true := by rfl)
    (hg : Gl X "list" := by rfl) (hs : starEach [.Name n p] X.env = [(false, eval (.Name n p) X.env)] := by rfl) : EO X (.Call (.Name "list" p2) [.Name n p] [] pos) Γ (.ol ck (kvs.map (·.1))) :=
  PE.imp (pe_callTy (call_list_dK hc) hg hm (by decide +kernel) (pa_cons (pv i hN hv hd hcd) pa_nil hs) (by decide) (by decide) hs rfl) fun σ H Q ⟨F0, H0, F, ok, q⟩ => by
    obtain ⟨l, ps, hl, hH, _, _, pd⟩ := tvar_cell ok hi
    refine ⟨_, hl, l, ps, rfl, hH, fun t ht => q t _ F _ (Gr.hold ok.sub ht) (none_of_same ok.sub ht) ht upd_same ⟨_, rfl, ?_⟩⟩
    have e : (ps.map fun kv => kV kv.1) = (kvs.map (·.1)).map fun x => kV (kf x) := by
      have := congrArg (List.map kV) (pd_keys pd)
      rw [List.map_map, List.map_map, List.map_map] at this
      rw [List.map_map]
      exact this
    rw [e]
    exact Paired.of_map (f := fun x => kV (kf x)) (fun x => ky x) _
/-- len(d) -/
theorem ev_lenK (i : Nat) (hm : X.mg "len" = none) (hi : Γ[i]? = some (.od c (kvs.map fun p => (kf p.1, p.2)))) (hN : X.N[i]? = some n := by rfl)
    (hv : Vis X.env.scope n := by first | exact Or.inl rfl | exact Or.inr (Or.inl rfl) | exact Or.inr (Or.inr rfl))
    (hd : (n == ("__debug__" : Str)) = false := by decide) (hcd : (n == ("__classdict__" : Str)) = false := by decide)
    (hg : Gl X "len" := by rfl) (hs : starEach [.Name n p] X.env = [(false, eval (.Name n p) X.env)] := by rfl) : EV X (.Call (.Name "len" p2) [.Name n p] [] pos) Γ rInt kvs.length :=
  PE.imp (pe_callB call_lenD hg hm boot_len (pa_cons (pv i hN hv hd hcd) pa_nil hs) (by decide) (by decide) hs rfl) fun σ H Q ⟨F0, H0, F, ok, q⟩ => by
    obtain ⟨l, ps, hl, hH, _, _, pd⟩ := tvar_cell ok hi
    refine ⟨_, hl, l, ps, rfl, hH, q _ F H (Gr.refl ok.sub) ?_⟩
    have hlen : ps.length = kvs.length := by rw [Paired.length pd, List.length_map]
    show V.int _ = V.int _
    rw [hlen]
end
end Z

set_option Elab.async false
set_option linter.all false
set_option maxRecDepth 100000
set_option maxHeartbeats 4000000
/-! Zed: instances, own ==, repeated lists, join, defaults. -/
namespace Z
open PySem PySem.Spec PyProof.Rows L2

section
open PySem.W
variable {prog : Program} {w : World} {A : Around} {E : Value → Shared → Prop} {s : Shared} {K : PySem.W.Frag} {x C L f : Addr} {h0 : Heap} {m : Str → Option Value} {ox : Obj} {od : Option Obj} {b tb : Value}
theorem ne_own {Q : Value → Shared → Prop} (hu : A.units + 1 < cLine) (F : Fr h0 L s.heap m) (X0 : K.In h0) (I : InstAt s.heap x ox C od) (hb : Looks (model prog w) s.heap (typeOf b) tb) (hn : notFirst K C tb = true)
    (hs : findIn K (.ref C) "__ne__" = some (some (.builtin "object.__ne__"))) (hm : mroIn K C (.type "object") = some true) (he : findIn K (.ref C) "__eq__" = some (some (.ref f))) (hf : isFn K (.ref f) = true)
    (h : wpAny (model prog w) A.in1 (call (.ref f) [.ref x, b]) (fun v s' => ∃ k, v = .bool k ∧ Q (.bool (!k)) s') E s) : wpAny (model prog w) A (richCompare .NotEq (.ref x) b) Q E s := by
  have X := X0.keeps F.keep
  have hu0 : A.units < cLine := Nat.lt_of_succ_lt hu
  have cn : wpAny (model prog w) A (call (.builtin "object.__ne__") [.ref x, b]) (fun v s' => ∃ k, v = .bool (!k) ∧ Q (.bool (!k)) s') E s := by
    refine wpAny_call (codeAny_call_builtin PySem.F.cmp_object.ne.plain PySem.F.cmpEntry_ne (check_slot (i := "object.__ne__") (owner := "object") (n := "__ne__") (by decide +kernel) (by decide +kernel) (I.type.andThen (looks_mroIn X hm)) (PySem.F.cmpArgs_ne _ _) ?_))
    unfold Builtin.«object.__ne__»
    refine wpAny_bind (m := slotArgs "__ne__" 1 _) (wpAny_pure ?_)
    refine wpAny_bind (m := cRoomFor _ _) (wpAny_cRoomFor (by show A.units + 1 < cLine; exact hu) ?_)
    refine wpAny_bind (m := callSpecialIfBound? (.ref x) (Str.ofString "__eq__") _) (ifBound_K X I he hf (wpAny_mono h (fun r s' hq => ?_) fun _ _ y => y))
    obtain ⟨k, rfl, q⟩ := hq
    refine wpAny_bind (m := truthy (.bool k)) (wpAny_truthy_bool ?_)
    exact wpAny_pure ⟨k, rfl, q⟩
  have one : wpAny (model prog w) A (tryCompare (.ref x) "__ne__" b) (fun r s' => ∃ v, r = some v ∧ Q v s') E s := by
    unfold tryCompare
    refine wpAny_bind ?_
    simp only [callSpecialIfBound?, bindSpecialIfBound?]
    refine wpAny_holding (wpAny_bind (wpAny_bind (wpAny_bind (I.type.here ((looks_findIn X hs).here ?_)))))
    refine wpAny_bind (wpAny_askSetting (wpAny_ite ?_))
    have fin : wpAny (model prog w) A (call (.builtin "object.__ne__") ([.ref x] ++ [b]) >>= fun v => pure (some v)) (fun r s' => ∃ k, r = some (.bool (!k)) ∧ Q (.bool (!k)) s') E s :=
      wpAny_bind (wpAny_mono cn (fun v s' ⟨k, e, q⟩ => wpAny_pure ⟨k, by rw [e], q⟩) fun _ _ h' => h')
    have fin2 : ∀ (r : Option Value) (s' : Shared), (∃ k, r = some (.bool (!k)) ∧ Q (.bool (!k)) s') → wpAny (model prog w) A (match r with | some .notImplemented => pure none | r => pure r : Sem (Option Value)) (fun r s' => ∃ v, r = some v ∧ Q v s') E s' := fun r s' ⟨k, e, q⟩ => by
      subst e
      exact wpAny_pure ⟨_, rfl, q⟩
    split
    · rw [PySem.F.cmp_object.ne.bind]
      refine wpAny_bind (wpAny_pure (wpAny_pure ?_))
      refine wpAny_mono fin (fun r s' q => ?_) fun _ _ h' => h'
      first
        | exact fin2 r s' q
        | (obtain ⟨k, e, q⟩ := q; subst e; exact wpAny_pure ⟨_, rfl, q⟩)
    · rw [PySem.F.cmp_object.ne.bind]
      refine wpAny_tryCatch (wpAny_bind (wpAny_pure (wpAny_pure ?_)))
      refine wpAny_mono fin (fun r s' q => ?_) fun _ _ h' => h'
      first
        | exact fin2 r s' q
        | (obtain ⟨k, e, q⟩ := q; subst e; exact wpAny_pure ⟨_, rfl, q⟩)
  unfold richCompare
  simp only [oneThing_ref]
  refine wpAny_holding (wpAny_bind (wpAny_cRoomFor hu0 ?_))
  refine wpAny_bind (I.type.here (wpAny_bind (hb.here ?_)))
  split
  · rename_i q
    have e : subIn K tb (.ref C) = some false := by
      rcases Bool.or_eq_true_iff.mp hn with e | e
      · rw [beq_iff_eq.mp e] at q; simp at q
      · exact beq_iff_eq.mp e
    refine wpAny_bind ((looks_subIn X e).here ?_)
    simp only [Bool.false_eq_true, if_false]
    refine wpAny_bind (wpAny_mono one (fun r s' z => ?_) fun _ _ e => e)
    obtain ⟨v, rfl, hq⟩ := z
    exact wpAny_pure hq
  · refine wpAny_bind (wpAny_pure ?_)
    simp only [Bool.false_eq_true, if_false]
    refine wpAny_bind (wpAny_mono one (fun r s' z => ?_) fun _ _ e => e)
    obtain ⟨v, rfl, hq⟩ := z
    exact wpAny_pure hq
end

theorem txt_join (a : Str) (ys : List Str) : Txt.join a ys = Str.join a ys := PySem.StrLaws.glued_eq_join a ys
/-! ### own == and != -/
structure Eqq (K : Frag) (C f : Addr) : Prop where
  eq : PySem.W.findIn K (.ref C) "__eq__" = some (some (.ref f))
  fn : PySem.W.isFn K (.ref f) = true
structure Nee (K : Frag) (C f : Addr) : Prop extends Eqq K C f where
  ne : PySem.W.findIn K (.ref C) "__ne__" = some (some (.builtin "object.__ne__"))
  mro : PySem.W.mroIn K C (.type "object") = some true
section
variable {X : Cx} {C f : Addr} {fd : FuncData} {ps : List Str} {n : Nat} {sp : Sp}
def rEqO (sp : Sp) (C : Addr) : R2 := fun x y H Q => ∃ a b dx dy fs gs, x = .ref a ∧ y = .ref b ∧ H a = some (.ins C dx fs) ∧ H b = some (.ins C dy gs) ∧ sp [.ref a, .ref b] H (fun v H' => ∃ k, v = .bl k ∧ Q (.bl k) H') E0
def rNeO (sp : Sp) (C : Addr) : R2 := fun x y H Q => ∃ a b dx dy fs gs, x = .ref a ∧ y = .ref b ∧ H a = some (.ins C dx fs) ∧ H b = some (.ins C dy gs) ∧ sp [.ref a, .ref b] H (fun v H' => ∃ k, v = .bl k ∧ Q (.bl (!k)) H') E0
theorem eq_run {A : Around} {pins : List (Addr × Obj)} {σ : L2.St} {H : Hp} {s : Shared} {a b : Addr} {Q : VK} (F : FnOk X.prog X.w X.K X.mg X.base CX0 n f fd ps sp) (hb : Binds X.K fd ps []) (hr : Room n A) (hA : A.frames = X.A.frames) (I : Inv X pins σ H s)
    (h : sp [.ref a, .ref b] H Q E0) : wpAny (model X.prog X.w) A (call (.ref f) [.ref a, .ref b]) (EP X pins σ Q) X.xe s := by
  have e0 : Env0 X.prog X.w X.K X.mg X.base A X.stack s H := by
    have e := I.env0
    exact ⟨by rw [hA]; exact e.frames, e.mod, e.bs, e.bsz, e.funs, e.frf, e.hok, e.bare⟩
  have hl := F.len _ _ _ _ h
  have r2 : Vals [V.ref a, V.ref b] [Value.ref a, Value.ref b] := .cons rfl (.cons rfl .nil)
  refine wpAny_call (codeAny_mono (F.run A X.stack s H ⟨[.ref a, .ref b], []⟩ [.ref a, .ref b] [.ref a, .ref b] _ E0 hr e0 (by
    have := hb s [.ref a, .ref b] I.kIn (by simpa using hl)
    simpa using this) r2 h) fun r s' hq => ?_)
  cases r with
  | error e => exact hq.elim
  | ok fl =>
    cases fl with
    | ret w => exact I.after hq
    | next => exact False.elim hq
    | brk => exact False.elim hq
    | cont => exact False.elim hq
theorem op_eqO (F : FnOk X.prog X.w X.K X.mg X.base CX0 n f fd ps sp) (hb : Binds X.K fd ps []) (q : Eqq X.K C f) (hr : Room n X.A) : OpR X (compareOp .Eq) (rEqO sp C) := by
  intro pins s σ H x y v u Q I rx ry h
  obtain ⟨a, b, dx, dy, fs, gs, rfl, rfl, ha, hb', hsp⟩ := h
  cases rx
  cases ry
  obtain ⟨mA, J, _⟩ := ins_get I.hok ha
  obtain ⟨mB, J', _⟩ := ins_get I.hok hb'
  obtain ⟨od, J, _⟩ := J.look
  obtain ⟨od', J', _⟩ := J'.look
  obtain ⟨m, hF⟩ := I.fr
  show wpAny (model X.prog X.w) X.A (richCompare .Eq (.ref a) (.ref b)) (EP X pins σ Q) X.xe s
  refine PySem.W.cmp_K (op := .Eq) (tb := .ref C) hr.units0 hF I.ok.mod.kin J J'.type (by simp [PySem.W.notFirst]) q.eq q.fn ?_
  refine thn (eq_run F hb hr rfl I hsp) fun v s' ⟨z, H', I', rz, k, ez, q⟩ => ?_
  subst ez
  cases rz
  exact ⟨.bl k, H', I', rfl, q⟩
theorem op_neO (F : FnOk X.prog X.w X.K X.mg X.base CX0 n f fd ps sp) (hb : Binds X.K fd ps []) (q : Nee X.K C f) (hr : Room (n + 1) X.A) : OpR X (compareOp .NotEq) (rNeO sp C) := by
  intro pins s σ H x y v u Q I rx ry h
  obtain ⟨a, b, dx, dy, fs, gs, rfl, rfl, ha, hb', hsp⟩ := h
  cases rx
  cases ry
  obtain ⟨mA, J, _⟩ := ins_get I.hok ha
  obtain ⟨mB, J', _⟩ := ins_get I.hok hb'
  obtain ⟨od, J, _⟩ := J.look
  obtain ⟨od', J', _⟩ := J'.look
  obtain ⟨m, hF⟩ := I.fr
  show wpAny (model X.prog X.w) X.A (richCompare .NotEq (.ref a) (.ref b)) (EP X pins σ Q) X.xe s
  refine ne_own (tb := .ref C) (by have := hr.un; omega) hF I.ok.mod.kin J J'.type (by simp [PySem.W.notFirst]) q.ne q.mro q.eq q.fn ?_
  refine thn (eq_run F hb hr.in1 rfl I hsp) fun v s' ⟨z, H', I', rz, k, ez, q⟩ => ?_
  subst ez
  cases rz
  exact ⟨k, rfl, .bl (!k), H', I', rfl, q⟩
end

section
variable {ρ : Type} {X : Cx} {Γ : List Sl} {O : Out ρ} {a b e : Expr} {es : List Expr} {rest : List Stmt} {pos p p2 p3 : Pos} {α β γ : Type} {c : Rp α} {d : Rp β} {k : Rp γ} {x x' : α} {y : β} {C f : Addr} {fl : α → List (Str × Fd)} {n : Str}
/-- e.n -/
theorem ev_fld (he : EV X e Γ (rIns C fl) x) (hc : Cls X.K C) (hn : NoAttr X.K C n) (hl : (fl x).lookup n = some (fd d y)) (hb : attributeBase e n X.env (eval e X.env) = eval e X.env := by rfl) : EV X (.Attribute e n pos) Γ d y :=
  PE.imp (pe_fld he hb) fun σ H Q ⟨F0, H0, F, ok, q⟩ => ⟨F0, H0, F, ok, fun v F1 H1 g1 ⟨t, dx, vs, ev, ht, fo⟩ => by
    obtain ⟨u, h1, h2⟩ := fo.look hl
    exact ⟨t, C, dx, vs, u, ev, g1.sub _ _ ht, hc, hn, h1, q u F1 H1 g1 h2⟩⟩
/-- self.n = e, self a cell in the slot i -/
theorem ss_fld (i : Nat) {m : Str} {fs : List (Str × Fd)} (he : EV X e Γ c x) {xa : Addr} (hi : Γ[i]? = some (.oc xa C fs)) (hc : Cls X.K C) (hn : NoAttr X.K C n) (hl : fs.lookup n = none) (hz : fs.length < 1000) (h : SS X rest (Γ.set i (.oc xa C (fs ++ [(n, fd c x)]))) O) (hN : X.N[i]? = some m := by rfl)
    (hv : Vis X.env.scope m := by first | exact Or.inl rfl | exact Or.inr (Or.inl rfl) | exact Or.inr (Or.inr rfl))
    (hd : (m == ("__debug__" : Str)) = false := by decide) (hcd : (m == ("__classdict__" : Str)) = false := by decide)
    (hs : swapsWith e (some (.Attribute (.Name m p) n p2)) pos.line X.env = pure false := by rfl) : SS X (.Assign [.Attribute (.Name m p) n p2] e pos :: rest) Γ O :=
  ss_step (ps_fld (pv i hN hv hd hcd) he hs) fun F0 H0 F D σ H ok q => ⟨F0, H0, F, ok, fun v F1 H1 g1 r => by
    have ok1 := ok.grow g1
    obtain ⟨l, hl', ca⟩ := ok1.cell hi rfl
    obtain ⟨ho, hH, dx, vs, eo, fo⟩ := ca.o
    subst eo
    refine ⟨_, hl', l, C, dx, vs, rfl, hH, hc, hn, by rw [fo.len]; exact hz, _, O, h, F0, H0, F1, ?_, q.step g1.ff⟩
    exact ok1.write hi rfl hl' ⟨dx, _, rfl, fo.put (g := fd c x) r hl⟩ ca.pin⟩
/-- own == -/
theorem ev_eqO {kk : Nat} {fdd : FuncData} {ps : List Str} {ι : Type} {As : ι → List Sl} {pre : ι → Prop} {m : ι → Bool} (G : FnOk X.prog X.w X.K X.mg X.base CX0 kk f fdd ps (spZ X.K As pre (fun _ => rBool) m)) (hbi : Binds X.K fdd ps []) (q : Eqq X.K C f) (hr : Room kk X.A)
    (ha : EV X a Γ (rIns C fl) x) (hb : EV X b Γ (rIns C fl) x') (i : ι) (hA : As i = [.v (rIns C fl) x, .v (rIns C fl) x']) (hp : pre i) : EV X (.Compare a [.Eq] [b] pos) Γ rBool (m i) :=
  ez_bin (pe_cmpR (op_eqO G hbi q hr) ha hb (nomark _)) fun F H v w Q s h1 h2 z => by
    obtain ⟨t, dx, vs, ev, ht, fo⟩ := id h1
    obtain ⟨t', dx', vs', ev', ht', fo'⟩ := id h2
    subst ev
    subst ev'
    refine ⟨t, t', dx, dx', vs, vs', rfl, rfl, s _ _ ht, s _ _ ht', i, F, s, ?_, hp, fun u F' H' g r => ⟨m i, r, z _ F' H' g rfl⟩⟩
    rw [hA]
    exact .cons h1 (.cons h2 .nil)
theorem eb_neO {kk : Nat} {fdd : FuncData} {ps : List Str} {ι : Type} {As : ι → List Sl} {pre : ι → Prop} {m : ι → Bool} (G : FnOk X.prog X.w X.K X.mg X.base CX0 kk f fdd ps (spZ X.K As pre (fun _ => rBool) m)) (hbi : Binds X.K fdd ps []) (q : Nee X.K C f) (hr : Room (kk + 1) X.A)
    (ha : EV X a Γ (rIns C fl) x) (hb : EV X b Γ (rIns C fl) x') (i : ι) (hA : As i = [.v (rIns C fl) x, .v (rIns C fl) x']) (hp : pre i) : EB X (.Compare a [.NotEq] [b] pos) Γ (!m i) :=
  PT.imp (pt_cmpR (op_neO G hbi q hr) ha hb (nomark _)) fun σ H Q ⟨F0, H0, F, ok, z⟩ => ⟨F0, H0, F, ok, fun v F1 H1 g1 p1 => ⟨F0, H0, F1, ok.grow g1, fun w F2 H2 g2 h2 => by
    have h1 := (rIns C fl).mono g2.ff p1
    obtain ⟨t, dx, vs, ev, ht, fo⟩ := id h1
    obtain ⟨t', dx', vs', ev', ht', fo'⟩ := id h2
    subst ev
    subst ev'
    refine ⟨t, t', dx, dx', vs, vs', rfl, rfl, g2.sub _ _ ht, g2.sub _ _ ht', i, F2, g2.sub, ?_, hp, fun u F' H' g r => ⟨m i, r, !m i, rfl, z F' H' ((g1.trans g2).trans g)⟩⟩
    rw [hA]
    exact .cons h1 (.cons h2 .nil)⟩⟩
/-- [e] * k and such, frozen lists -/
theorem eo_rep {xs : List α} {i : Int} (m : Nat) (ha : EV X a Γ (rL c) xs) (hb : EV X b Γ rInt i) (hi : i = m := by rfl) (hm : m < 2 ^ 62 := by decide) (hz : xs.length * m ≤ 16777216) : EO X (.BinOp a .Mult b pos) Γ (.ol c (List.replicate m xs).flatten) :=
  eo_bin (pe_op op_rep ha hb) fun F H v w Q s ⟨l, vs, ev, hl, pl⟩ h2 z => by
    subst hi
    refine ⟨l, _, vs, ev, h2, s _ _ hl, by omega, by omega, by rw [Int.toNat_natCast, Paired.length pl, sizeLine_eq]; exact hz, fun t ht => ?_⟩
    rw [Int.toNat_natCast]
    refine z t _ F _ (Gr.hold s ht) (none_of_same s ht) ht upd_same ⟨_, rfl, ?_⟩
    clear hz hb h2 z
    induction m with
    | zero => exact .nil
    | succ m ih =>
      rw [List.replicate_succ, List.replicate_succ, List.flatten_cons, List.flatten_cons]
      exact Paired.append pl (ih (by omega))
/-- sep.join(xs) -/
theorem ev_join {l : List Nat} {xs : List (List Nat)} (ha : EV X a Γ rTx l) (hb : EL X b Γ rTx xs) (hz : (xs.map (·.length)).sum + xs.length * l.length ≤ 16777216) (hs : starEach [b] X.env = [(false, eval b X.env)] := by rfl)
    (hbase : attributeBase a "join" X.env (eval a X.env) = eval a X.env := by rfl) (hline : (p2.endLine == pos.line) = true := by rfl) : EV X (.Call (.Attribute a "join" p2) [b] [] pos) Γ rTx (joinT l xs) :=
  PE.imp (pe_join ha hb hs hbase hline) fun σ H Q ⟨F0, H0, F, ok, q⟩ => ⟨F0, H0, F, ok, fun v F1 H1 g1 hv => ⟨⟨_, hv⟩, F0, H0, F1, ok.grow g1, fun w F2 H2 g2 ⟨t, vs, ew, ht, pl⟩ => by
    have h1 : v = .str (tx l) := hv
    refine ⟨tx l, t, xs.map tx, h1, by rw [ew], .inl (by rw [← PL.txs pl]; exact ht), ?_, q _ F2 H2 (g1.trans g2) ?_⟩
    · have e : (xs.map tx).map (·.length) = xs.map (·.length) := by
        rw [List.map_map]
        apply List.map_congr_left
        intro y _
        exact tx_len y
      rw [e, List.length_map, tx_len]
      exact hz
    · show V.str _ = V.str _
      rw [← join_tx, txt_join]⟩⟩
end

/-! ### making instances -/
/-- __init__ : the instance x is a cell at the entry; behind it a frozen value -/
def spMk (K : Frag) (C : Addr) {ι α : Type} (As : ι → List Sl) (pre : ι → Prop) (c : Rp α) (m : ι → α) : Sp := fun vs H Q _ => ∃ a F H1 x dx vs', vs = .ref x :: vs' ∧ Same F H1 ∧ Same H1 H ∧ H1 x = none ∧ H x = some (.ins C dx []) ∧ ArgsOk K F vs' (As a) ∧ pre a ∧
  ∀ F' H', Gr F H1 F' H' → c.r K F' (.ref x) (m a) → Q .non H'
def outI (x C : Addr) (fs : List (Str × Fd)) : Out Unit := { nx := fun Γ => Γ[0]? = some (.oc x C fs), c := rNon, rt := fun _ => False }
section
variable {P : Program} {w : World} {K : PySem.W.Frag} {mg : Str → Option Value} {base : Heap} {ι α : Type} {As : ι → List Sl} {pre : ι → Prop} {m : ι → α} {C : Addr} {fl : α → List (Str × Fd)}
theorem ok_startI {F H1 H : Hp} {N ps : List Str} {x dx : Addr} {vs' : List V} {ss : List Sl} (sF : Same F H1) (sH : Same H1 H) (hx : H1 x = none) (hH : H x = some (.ins C dx [])) (h : ArgsOk K F vs' ss) (hla : ss.length + 1 = ps.length) (hz : ps.length ≤ N.length) :
    Ok K F H1 F H (L2.start N (.ref x :: vs')) (.oc x C [] :: ss ++ List.replicate (N.length - ps.length) .un) := by
  have sFH : Same F H := sF.trans sH
  have hFx : F x = none := none_of_same sF hx
  have hv := ArgsOk.length h
  have g0 : Gr F H1 F H := ⟨sH, Same.refl _, sFH, fun _ _ h => .inl h⟩
  unfold L2.start
  have get : ∀ (i : Nat) (t : Sl), (Sl.oc x C [] :: ss ++ List.replicate (N.length - ps.length) Sl.un)[i]? = some t → (i = 0 ∧ t = .oc x C []) ∨ ∃ j, i = j + 1 ∧ (ss ++ List.replicate (N.length - ps.length) Sl.un)[j]? = some t := fun i t ht => by
    cases i with
    | zero => exact .inl ⟨rfl, (Option.some.inj ht).symm⟩
    | succ j => exact .inr ⟨j, rfl, ht⟩
  have nocel : ∀ (j : Nat) (t : Sl), (ss ++ List.replicate (N.length - ps.length) Sl.un)[j]? = some t → t.cel = true → False := fun j t ht ct => by
    by_cases hi : j < ss.length
    · rw [List.getElem?_append_left hi] at ht
      obtain ⟨v, h1, h2⟩ := ArgsOk.get h ht
      cases t with
      | v c x => cases ct
      | un => exact h2.elim
      | ol _ _ => exact h2.elim
      | od _ _ => exact h2.elim
      | oc _ _ _ => exact h2.elim
      | ox _ _ => exact h2.elim
    · rw [List.getElem?_append_right (by omega), List.getElem?_replicate] at ht
      split at ht
      · cases ht
        cases ct
      · cases ht
  refine ⟨g0, by simp [hv]; omega, fun i t ht => ?_, fun i j t u l hij hi hj ci cj => ?_⟩
  · rcases get i t ht with ⟨rfl, rfl⟩ | ⟨j, rfl, hj⟩
    · exact ⟨some (.ref x), rfl, x, rfl, hFx, hx, ⟨_, hH, dx, [], rfl, .nil⟩, rfl⟩
    · by_cases hi : j < ss.length
      · rw [List.getElem?_append_left hi] at hj
        obtain ⟨v, h1, h2⟩ := ArgsOk.get h hj
        refine ⟨some v, ?_, ?_⟩
        · show ((vs'.map some) ++ _)[j]? = _
          rw [List.getElem?_append_left (by simp; omega), List.getElem?_map, h1]
          rfl
        · cases t with
          | v c x => exact ⟨v, rfl, h2⟩
          | un => exact h2.elim
          | ol _ _ => exact h2.elim
          | od _ _ => exact h2.elim
          | oc _ _ _ => exact h2.elim
          | ox _ _ => exact h2.elim
      · rw [List.getElem?_append_right (by omega), List.getElem?_replicate] at hj
        split at hj
        · cases hj
          refine ⟨none, ?_, trivial⟩
          show ((vs'.map some) ++ List.replicate (N.length - (V.ref x :: vs').length) none)[j]? = _
          rw [List.getElem?_append_right (by simp; omega), List.getElem?_replicate, if_pos (by simp; omega)]
        · cases hj
  · rcases get i t hi with ⟨rfl, rfl⟩ | ⟨i', rfl, hi'⟩
    · rcases get j u hj with ⟨rfl, rfl⟩ | ⟨j', rfl, hj'⟩
      · exact absurd rfl hij
      · exact (nocel j' u hj' cj).elim
    · exact (nocel i' t hi' ci).elim
end
/-- C(..) -/
structure DfC (P : Program) (w : World) (K : PySem.W.Frag) (mg : Str → Option Value) (base : Heap) (k : Nat) (n : Str) (C : Addr) {ι α : Type} (As : ι → List Sl) (pre : ι → Prop) (c : Rp α) (m : ι → α) : Prop where
  ex : ∃ (f : Addr) (fd : FuncData) (ps : List Str), FnOk P w K mg base CX0 k f fd ps (spMk K C As pre c m) ∧ mg n = some (.ref C) ∧ Mk K C f ∧ Binds K fd ps []
section
variable {X : Cx} {Γ : List Sl} {e : Expr} {es : List Expr} {pos p : Pos} {C : Addr}
theorem ev_make {n : Str} {k : Nat} {ι α : Type} {As : ι → List Sl} {pre : ι → Prop} {c : Rp α} {m : ι → α} (G : DfC X.prog X.w X.K X.mg X.base k n C As pre c m) (hr : Room (k + 1) X.A) (a : ι) (ha : ES X (e :: es) Γ (As a)) (hp : pre a)
    (hg : Gl X n := by rfl) (hdb : (n == ("__debug__" : Str)) = false := by decide) (he : starEach (e :: es) X.env = (false, eval e X.env) :: starEach es X.env := by rfl) (hpl : (backTo pos (starEach es X.env)).any (·.1) = false := by rfl) :
    EV X (.Call (.Name n p) (e :: es) [] pos) Γ c (m a) := by
  obtain ⟨f, fd, ps, G, hm, hM, hb⟩ := G.ex
  exact PE.imp (pe_make hM G hr hg hm hb .nil pass0 ha hdb he hpl) fun σ H Q ⟨F0, H0, F, ok, q⟩ => ⟨F0, H0, F, ok, fun vs F1 H1 g1 p1 x dx hx hdx hne => by
    refine ⟨a, F1, H1, x, dx, vs, by rw [List.append_nil], g1.sub, ?_, hx, upd_same, p1, hp, fun F2 H2 g2 r => ⟨rfl, q _ F2 H2 (g1.trans g2) r⟩⟩
    exact (same_upd hdx).trans (same_upd (by rw [upd_ne hne.symm]; exact hx))⟩
end
end Z

set_option Elab.async false
set_option linter.all false
set_option maxRecDepth 100000
set_option maxHeartbeats 4000000
/-! Zed: promises by a relation; defs with keyword defaults; the head's facts. -/
namespace Z
open PySem PySem.Spec PyProof.Rows L2

/-! ### some value with a property -/
def tEx {α : Type} (K : Frag) (Γ : List Sl) (c : Rp α) (post : α → Prop) : TE := fun σ H Q => ∃ F0 H0 F, Ok K F0 H0 F H σ Γ ∧ ∀ x v F' H', post x → Gr F H F' H' → c.r K F' v x → Q v H'
abbrev EX (X : Cx) (e : Expr) (Γ : List Sl) {α : Type} (c : Rp α) (post : α → Prop) : Prop := PE X e (tEx X.K Γ c post)
def spP (K : Frag) {ι ρ : Type} (As : ι → List Sl) (pre : ι → Prop) (c : ι → Rp ρ) (post : ι → ρ → Prop) : Sp := fun vs H Q _ => ∃ a F, Same F H ∧ ArgsOk K F vs (As a) ∧ pre a ∧ ∀ x v F' H', post a x → Gr F H F' H' → (c a).r K F' v x → Q v H'
def outP {ρ : Type} (c : Rp ρ) (post : ρ → Prop) : Out ρ := { nx := fun _ => False, c := c, rt := post }
section
variable {P : Program} {w : World} {K : PySem.W.Frag} {mg : Str → Option Value} {base : Heap} {ι ρ : Type} {As : ι → List Sl} {pre : ι → Prop} {c : ι → Rp ρ} {m : ι → ρ} {post : ι → ρ → Prop}
theorem _root_.L2.FunD.p {x qual : Str} {params : Arguments} {body : List Stmt} {scope : Scope} {dvs : List V} {kws : List (Str × V)} {f : Addr} {fd : FuncData} {N ps : List Str} {k : Nat} (F : FunD K x qual params body scope dvs kws f fd) (S : FnScope N ps scope) (hl : ∀ a, (As a).length = ps.length) (hz : ps.length ≤ N.length)
    (hb : ∀ a, pre a → ∀ (cdv : Value) (A : Around) (outer : List Env) (s : Shared) (H : Hp) (E : XK), Room k (A.deeper (envOfC qual scope s.heap.objs.size f cdv)) →
      SS (cxz P w K mg base N qual scope f cdv A outer s H E) body (As a ++ List.replicate (N.length - ps.length) .un) (outP (c a) (post a))) : FnOk P w K mg base CX0 (k + 1) f fd ps (spP K As pre c post) :=
  F.ok S (fun vs H Q E ⟨a, F', _, h, _⟩ => (ArgsOk.length h).trans (hl a)) fun cdv A outer s H vs Q E hr ⟨a, F', sF, h, hp, q⟩ => by
    refine ⟨_, (hb a hp cdv A outer s H E hr).nox, F', H, F', ?_, ⟨fun _ _ _ _ h => h.elim, fun x v F2 H2 e g r => q x v F2 H2 e g r, fun _ _ _ _ h => h.elim, fun _ _ _ _ h => h.elim⟩⟩
    have := ok_start (N := N) sF h (by rw [hl]; exact hz)
    rw [hl] at this
    exact this
theorem _root_.L2.FunD.mkz {x qual : Str} {params : Arguments} {body : List Stmt} {scope : Scope} {dvs : List V} {kws : List (Str × V)} {C : Addr} {α : Type} {fl : α → List (Str × Fd)} {m : ι → α} {f : Addr} {fd : FuncData} {N ps : List Str} {k : Nat} (F : FunD K x qual params body scope dvs kws f fd) (S : FnScope N ps scope) (hl : ∀ a, (As a).length + 1 = ps.length) (hz : ps.length ≤ N.length)
    (hb : ∀ a, pre a → ∀ (x : Addr) (cdv : Value) (A : Around) (outer : List Env) (s : Shared) (H : Hp) (E : XK), Room k (A.deeper (envOfC qual scope s.heap.objs.size f cdv)) →
      SS (cxz P w K mg base N qual scope f cdv A outer s H E) body (.oc x C [] :: As a ++ List.replicate (N.length - ps.length) .un) (outI x C (fl (m a)))) : FnOk P w K mg base CX0 (k + 1) f fd ps (spMk K C As pre (rIns C fl) m) :=
  F.ok S (fun vs H Q E ⟨a, F', H1, x, dx, vs', ev, _, _, _, _, h, _⟩ => by rw [ev, List.length_cons, ArgsOk.length h]; exact hl a) fun cdv A outer s H vs Q E hr ⟨a, F', H1, x, dx, vs', ev, sF, sH, hx, hH, h, hp, q⟩ => by
    subst ev
    refine ⟨_, (hb a hp x cdv A outer s H E hr).nox, F', H1, F', ok_startI sF sH hx hH h (hl a) hz, ?_⟩
    refine ⟨fun Γ' σ' F2 H2 hn s2 ok2 => ?_, fun _ _ _ _ h => h.elim, fun _ _ _ _ h => h.elim, fun _ _ _ _ h => h.elim⟩
    have hn' : Γ'[0]? = some (.oc x C (fl (m a))) := hn
    obtain ⟨l, hl', ca⟩ := ok2.cell hn' rfl
    have ex : l = x := ca.pin
    subst ex
    obtain ⟨ho, hH2, dx2, vs2, eo, fo⟩ := ca.o
    subst eo
    have okf := ok2.freeze (c := rIns C fl) (x := m a) hn' rfl hl' hH2 ⟨l, dx2, vs2, rfl, upd_same, fo.mono (same_upd ca.f)⟩
    exact q _ _ okf.gr ⟨l, dx2, vs2, rfl, upd_same, fo.mono (same_upd ca.f)⟩
end
structure Dfp (P : Program) (w : World) (K : PySem.W.Frag) (mg : Str → Option Value) (base : Heap) (k : Nat) (n : Str) {ι ρ : Type} (As : ι → List Sl) (pre : ι → Prop) (c : ι → Rp ρ) (post : ι → ρ → Prop) : Prop where
  ex : ∃ (f : Addr) (fd : FuncData) (ps : List Str) (As' : ι → List Sl) (dvs : List V) (ds : List Value), FnOk P w K mg base CX0 k f fd ps (spP K As' pre c post) ∧ mg n = some (.ref f) ∧ PySem.W.keepIn K (.ref f) = true ∧ Vals dvs ds ∧ Binds K fd ps ds ∧
    ∀ a F vs, ArgsOk K F vs (As a) → ArgsOk K F (vs ++ dvs) (As' a)
section
variable {ρ : Type} {X : Cx} {Γ : List Sl} {O : Out ρ} {e : Expr} {es : List Expr} {rest : List Stmt} {pos p : Pos} {α : Type} {c : Rp α} {x : α} {ss : List Sl} {post : α → Prop}
theorem ex_call {n : Str} {k : Nat} {ι ρ : Type} {As : ι → List Sl} {pre : ι → Prop} {c : ι → Rp ρ} {post : ι → ρ → Prop} (G : Dfp X.prog X.w X.K X.mg X.base k n As pre c post) (hr : Room k X.A) (a : ι) (ha : ES X (e :: es) Γ (As a)) (hp : pre a)
    (hg : Gl X n := by rfl) (hdb : (n == ("__debug__" : Str)) = false := by decide) (he : starEach (e :: es) X.env = (false, eval e X.env) :: starEach es X.env := by rfl) (hpl : (backTo pos (starEach es X.env)).any (·.1) = false := by rfl) :
    EX X (.Call (.Name n p) (e :: es) [] pos) Γ (c a) (post a) := by
  obtain ⟨f, fd, ps, As', dvs, ds, G, hm, hk, hd, hb, hA⟩ := G.ex
  exact PE.imp (pe_call G hr hg hm hk hb hd pass0 ha hdb he hpl) fun σ H Q ⟨F0, H0, F, ok, q⟩ => ⟨F0, H0, F, ok, fun vs F1 H1 g1 p1 => ⟨a, F1, g1.sub, hA a F1 vs p1, hp, fun x v F2 H2 e g2 r => q x v F2 H2 e (g1.trans g2) r⟩⟩
theorem ss_setX (i : Nat) {n : Str} (hN : X.N.Nodup) (he : EX X e Γ c post) (h : ∀ x, post x → SS X rest (Γ.set i (.v c x)) O) (hi : X.N[i]? = some n := by rfl) (hx : Loc X.env.scope n := by first | exact Or.inl rfl | exact Or.inr rfl)
    (hs : swapsWith e (some (.Name n p)) pos.line X.env = pure false := by rfl) (hf : X.fn n = true ∨ X.env.scope.names.lookup n = some .local := by first | exact .inl rfl | exact .inr rfl) : SS X (.Assign [.Name n p] e pos :: rest) Γ O :=
  ss_step (ps_set hN hi hx he hs hf) fun F0 H0 F D σ H ok q => ⟨F0, H0, F, ok, fun x v F' H' hp g r => ⟨_, O, h x hp, F0, H0, F', (ok.grow g).setV r, q.step g.ff⟩⟩
end

/-! ### defs over the head's facts -/
/-- a def of the text by its name: no defaults -/
structure Fn0 (K : Frag) (mg : Str → Option Value) (x : Str) (st : Stmt) (kws : List (Str × V)) : Prop where
  ex : ∃ f fd, FunD K x x (defArgs st) (defBody st) (defScope st) [] kws f fd ∧ mg x = some (.ref f)
section
variable {P : Program} {w : World} {K : PySem.W.Frag} {mg : Str → Option Value} {base : Heap} {ι ρ : Type} {As : ι → List Sl} {pre : ι → Prop} {c : ι → Rp ρ} {m : ι → ρ} {post : ι → ρ → Prop} {x : Str} {st : Stmt} {N ps : List Str} {k : Nat}
theorem Fn0.df (F : Fn0 K mg x st []) (S : FnScope N ps (defScope st)) (hl : ∀ a, (As a).length = ps.length) (hz : ps.length ≤ N.length)
    (h : ∀ (kV doc pm : Value) (an : Option Addr) (cdv ct : Value) (us : List Value), us.length = ps.length → bindArgs (PySem.W.fnOf x x (defArgs st) (defBody st) (defScope st) .none kV doc pm an cdv ct) ⟨us, []⟩ = pure (ps.zip us))
    (hb : ∀ a, pre a → ∀ (f : Addr) (cdv : Value) (A : Around) (outer : List Env) (s : Shared) (H : Hp) (E : XK), Room k (A.deeper (envOfC x (defScope st) s.heap.objs.size f cdv)) →
      SS (cxz P w K mg base N x (defScope st) f cdv A outer s H E) (defBody st) (As a ++ List.replicate (N.length - ps.length) .un) (outR (c a) (m a))) : Df P w K mg base (k + 1) x As pre c m := by
  obtain ⟨f, fd, F, hm⟩ := F.ex
  exact Df.of (F.z S hl hz fun a hp => hb a hp f) hm F.kp (F.bindsN h)
theorem Fn0.dfp (F : Fn0 K mg x st []) (S : FnScope N ps (defScope st)) (hl : ∀ a, (As a).length = ps.length) (hz : ps.length ≤ N.length)
    (h : ∀ (kV doc pm : Value) (an : Option Addr) (cdv ct : Value) (us : List Value), us.length = ps.length → bindArgs (PySem.W.fnOf x x (defArgs st) (defBody st) (defScope st) .none kV doc pm an cdv ct) ⟨us, []⟩ = pure (ps.zip us))
    (hb : ∀ a, pre a → ∀ (f : Addr) (cdv : Value) (A : Around) (outer : List Env) (s : Shared) (H : Hp) (E : XK), Room k (A.deeper (envOfC x (defScope st) s.heap.objs.size f cdv)) →
      SS (cxz P w K mg base N x (defScope st) f cdv A outer s H E) (defBody st) (As a ++ List.replicate (N.length - ps.length) .un) (outP (c a) (post a))) : Dfp P w K mg base (k + 1) x As pre c post := by
  obtain ⟨f, fd, F, hm⟩ := F.ex
  exact ⟨f, fd, ps, As, [], [], F.p S hl hz fun a hp => hb a hp f, hm, F.kp, .nil, F.bindsN h, fun a F vs h => by rw [List.append_nil]; exact h⟩
/-- keyword-only parameters left out: As' with their values behind -/
theorem Fn0.dfk {kws : List (Str × V)} {As' : ι → List Sl} (F : Fn0 K mg x st kws) (S : FnScope N ps (defScope st)) (n : Nat) (hk : kws ≠ []) (hn : n + kws.length = ps.length) (hl : ∀ a, (As' a).length = ps.length) (hz : ps.length ≤ N.length)
    (h : ∀ (D : Addr) (doc pm : Value) (an : Option Addr) (cdv ct : Value) (us ks : List Value), us.length = n → ks.length = kws.length →
      KwChain D ((kws.map (·.1)).zip ks) (bindArgs (PySem.W.fnOf x x (defArgs st) (defBody st) (defScope st) .none (.ref D) doc pm an cdv ct) ⟨us, []⟩) (ps.zip (us ++ ks)))
    (hA : ∀ a F vs, ArgsOk K F vs (As a) → ArgsOk K F (vs ++ kws.map (·.2)) (As' a))
    (hb : ∀ a, pre a → ∀ (f : Addr) (cdv : Value) (A : Around) (outer : List Env) (s : Shared) (H : Hp) (E : XK), Room k (A.deeper (envOfC x (defScope st) s.heap.objs.size f cdv)) →
      SS (cxz P w K mg base N x (defScope st) f cdv A outer s H E) (defBody st) (As' a ++ List.replicate (N.length - ps.length) .un) (outR (c a) (m a))) : Df P w K mg base (k + 1) x As pre c m := by
  obtain ⟨f, fd, F, hm⟩ := F.ex
  obtain ⟨ds, hv, hbi⟩ := F.binds0 (ps := ps) n hk hn h
  exact ⟨f, fd, ps, As', _, ds, F.z S hl hz fun a hp => hb a hp f, hm, F.kp, hv, hbi, hA⟩
end
/-- a method of the text -/
structure Mt0 (K : Frag) (C : Addr) (m q : Str) (st : Stmt) : Prop where
  ex : ∃ f fd, FunD K m q (defArgs st) (defBody st) (defScope st) [] [] f fd ∧ Meth K C m f

/-! ### the head's Hook: facts by names and tests of the written part -/
def obsZ (fa : List He.Fa) (ex : List (PySem.W.Frag → Bool)) (fn : List He.DefD) (K : PySem.W.Frag) : He.AlD := (((fa.all fun f => f.ok K) && ex.all fun f => f K) && fn.all fun d => d.ok K, fn.map fun d => He.fnW K d.at_)
def SaysZ (fa : List He.Fa) (ex : List (PySem.W.Frag → Bool)) (fn : List He.DefD) (K : PySem.W.Frag) : Prop := obsZ fa ex fn K = He.valD fn
def obsZG (n : Nat) (fa : List He.Fa) (ex : List (PySem.W.Frag → Bool)) (fn : List He.DefD) (g : Addr → Option Obj) : He.AlD := obsZ fa ex fn (He.frG g (He.asD g n))
def hookZ (n : Nat) (fa : List He.Fa) (ex : List (PySem.W.Frag → Bool)) (fn : List He.DefD) : PySem.W.Hook where
  α := He.AlD
  obs := fun s => obsZG n fa ex fn s.heap.get?
  val := fun _ => He.valD fn
  says := fun _ h => ∃ K : PySem.W.Frag, K.In h ∧ SaysZ fa ex fn K
  of := fun _ _ e => ⟨_, He.frG_in, e⟩
  keeps := fun _ _ _ ⟨K, hK, c⟩ k => ⟨K, PySem.W.Frag.In.keeps hK k, c⟩
theorem obsZG_eq {n : Nat} {fa : List He.Fa} {ex : List (PySem.W.Frag → Bool)} {fn : List He.DefD} {g : Addr → Option Obj} {s : Shared} (h : ∀ a, g a = s.heap.get? a) : obsZG n fa ex fn g = (hookZ n fa ex fn).obs s := by
  have e : g = s.heap.get? := funext h
  rw [e] <;> rfl
section
variable {fa : List He.Fa} {ex : List (PySem.W.Frag → Bool)} {fn : List He.DefD} {K : PySem.W.Frag}
theorem SaysZ.a1 (c : SaysZ fa ex fn K) : ((fa.all fun f => f.ok K) && ex.all fun f => f K) = true ∧ (fn.all fun d => d.ok K) = true :=
  He.ba (show (((fa.all fun f => f.ok K) && ex.all fun f => f K) && fn.all fun d => d.ok K) = true from congrArg (fun z : He.AlD => z.1) c)
theorem SaysZ.fact (c : SaysZ fa ex fn K) (i : Nat) {f : He.Fa} (h : fa[i]? = some f := by rfl) : f.ok K = true :=
  List.all_eq_true.mp (He.ba c.a1.1).1 f (List.mem_of_getElem? h)
theorem SaysZ.ext (c : SaysZ fa ex fn K) (i : Nat) {f : PySem.W.Frag → Bool} (h : ex[i]? = some f := by rfl) : f K = true :=
  List.all_eq_true.mp (He.ba c.a1.1).2 f (List.mem_of_getElem? h)
theorem SaysZ.def_ (c : SaysZ fa ex fn K) (i : Nat) {d : He.DefD} (h : fn[i]? = some d := by rfl) : ∃ fd, FunD K d.name d.qual d.params d.body d.scope (d.dvs K) (d.kws K) (He.fAd K d.at_) fd := by
  have c2 := c.a1.2
  have e : fn.map (fun d => He.fnW K d.at_) = fn.map He.DefD.val := congrArg (fun z : He.AlD => z.2) c
  have e2 : (fn.map fun d => He.fnW K d.at_)[i]? = (fn.map He.DefD.val)[i]? := by rw [e]
  rw [List.getElem?_map, List.getElem?_map, h] at e2
  exact He.DefD.funD (Option.some.inj e2) (List.all_eq_true.mp c2 d (List.mem_of_getElem? h))
end
/-- a def of the top as a datum -/
def dTop (x : Str) (st : Stmt) (kwd : List (Str × He.Dv) := []) : He.DefD := ⟨(x, none), x, x, defArgs st, defBody st, defScope st, [], kwd⟩
def dMet (C m q : Str) (st : Stmt) : He.DefD := ⟨(C, some m), m, q, defArgs st, defBody st, defScope st, [], []⟩
theorem SaysZ.fn0 {fa : List He.Fa} {ex : List (PySem.W.Frag → Bool)} {fn : List He.DefD} {K : PySem.W.Frag} {h : Heap} {mg : Str → Option Value} (c : SaysZ fa ex fn K) (X : K.In h) (G : h.Ns mainGlobals mg) {x : Str} {st : Stmt} {kwd : List (Str × He.Dv)} (i j : Nat)
    (hi : fn[i]? = some (dTop x st kwd) := by rfl) (hj : fa[j]? = some (.glo x) := by rfl) : Fn0 K mg x st (kwd.map fun q => (q.1, q.2.v K)) := by
  obtain ⟨fd, F⟩ := c.def_ i hi
  exact ⟨_, fd, F, He.glo_ok X G (c.fact j hj)⟩
theorem SaysZ.mt0 {fa : List He.Fa} {ex : List (PySem.W.Frag → Bool)} {fn : List He.DefD} {K : PySem.W.Frag} (c : SaysZ fa ex fn K) {C m q : Str} {st : Stmt} (i j : Nat)
    (hi : fn[i]? = some (dMet C m q st) := by rfl) (hj : fa[j]? = some (.meth C m) := by rfl) : Mt0 K (He.ga K C) m q st := by
  obtain ⟨fd, F⟩ := c.def_ i hi
  exact ⟨_, fd, F, He.meth_ok (c.fact j hj)⟩
/-- what isinstance asks of a class of the text -/
def isiB (x : Str) (K : PySem.W.Frag) : Bool := (decide (PySem.W.findIn K (.ref (He.ga K x)) "__class__" = some (some (.builtin "object.__class__"))) && decide (PySem.W.specialIn K (.builtin "object.__class__") "__get__" = some (some (.builtin "getset_descriptor.__get__")))) &&
  (decide (PySem.W.takesIn K (.builtin "object.__class__") = some true) && decide (PySem.W.mroIn K (He.ga K x) (.type "object") = some true))
def neB (x : Str) (K : PySem.W.Frag) : Bool := decide (PySem.W.findIn K (.ref (He.ga K x)) "__ne__" = some (some (.builtin "object.__ne__")))
/-- isinstance(an instance of the class at C, that class) -/
structure Isi (K : Frag) (C : Addr) : Prop where
  cl : PySem.W.findIn K (.ref C) "__class__" = some (some (.builtin "object.__class__"))
  ge : PySem.W.specialIn K (.builtin "object.__class__") "__get__" = some (some (.builtin "getset_descriptor.__get__"))
  tk : PySem.W.takesIn K (.builtin "object.__class__") = some true
  mr : PySem.W.mroIn K C (.type "object") = some true
theorem isi_ok {x : Str} {K : PySem.W.Frag} (h : isiB x K = true) : Isi K (He.ga K x) := by
  unfold isiB at h
  simp only [Bool.and_eq_true, decide_eq_true_eq] at h
  exact ⟨h.1.1, h.1.2, h.2.1, h.2.2⟩
theorem ne_ok {x : Str} {K : PySem.W.Frag} (h : neB x K = true) : PySem.W.findIn K (.ref (He.ga K x)) "__ne__" = some (some (.builtin "object.__ne__")) := of_decide_eq_true h
section
variable {X : Cx} {Γ : List Sl} {a b : Expr} {pos p : Pos} {α : Type} {x : α} {C : Addr} {fl : α → List (Str × Fd)} {n : Str}
theorem eb_isiOwn {p2 : Pos} (hm : X.mg "isinstance" = none) (ha : EV X a Γ (rIns C fl) x) (hc : Cls X.K C) (hi : Isi X.K C) (hn : X.mg n = some (.ref C)) (hg2 : Gl X n := by rfl) (hd2 : (n == ("__debug__" : Str)) = false := by decide) (hg : Gl X "isinstance" := by rfl)
    (hs : starEach [a, .Name n p2] X.env = (false, eval a X.env) :: starEach [.Name n p2] X.env := by rfl) (hs2 : starEach [.Name n p2] X.env = [(false, eval (.Name n p2) X.env)] := by rfl) (hpl : (backTo pos (starEach [.Name n p2] X.env)).any (·.1) = false := by rfl) :
    EV X (.Call (.Name "isinstance" p) [a, .Name n p2] [] pos) Γ rBool true :=
  ez_b2 (P2 := ⟨fun _ _ _ v => v = .ref C, fun _ h => h⟩) call_isi hm (by decide +kernel) ha (PE.imp (pe_glob hg2 hn (v := .ref C) rfl hd2) fun σ H Q ⟨F0, H0, F, ok, q⟩ => q _ F H (Gr.refl ok.sub) rfl)
    (fun F H v w Q s ⟨t, dx, vs, ev, ht, fo⟩ h2 z => ⟨v, w, .ref C, .ref C, true, rfl, by rw [h2]; exact .own C, by rw [ev]; exact .base (.ins (s _ _ ht) hc hi.cl hi.ge hi.tk hi.mr), by unfold PySem.W.kitOne; rw [if_pos (by simp)], z _ F H (Gr.refl s) rfl⟩) hg (by decide) (by decide) hs hs2 hpl
end
end Z

set_option Elab.async false
set_option linter.all false
set_option maxRecDepth 100000
set_option maxHeartbeats 4000000
/-! Zed: tuple(range(n)), list(range(n)). -/
namespace Z
open PySem PySem.Spec PyProof.Rows L2
section
variable {ρ : Type} {X : Cx} {Γ : List Sl} {a : Expr} {pos p p2 p3 : Pos}
theorem rgV_rng (n : Nat) : rgV 0 n = (rng 0 n).map V.int := by
  unfold rgV rng
  rw [List.map_map]
  have e : ((n : Int) - 0).toNat = n := by omega
  rw [e]
  rfl
theorem ev_tupRg {i : Int} (n : Nat) (hc : X.calm = true) (hm : X.mg "tuple" = none) (hm2 : X.mg "range" = none) (h : EV X a Γ rInt i) (hi : i = n) (hn : n ≤ 16777216) (hg : Gl X "tuple" := by rfl) (hg2 : Gl X "range" := by rfl)
    (na : starEach [a] X.env = (false, eval a X.env) :: starEach [] X.env := by rfl) (nb : starEach [.Call (.Name "range" p) [a] [] p2] X.env = (false, eval (.Call (.Name "range" p) [a] [] p2) X.env) :: starEach [] X.env := by rfl) :
    EV X (.Call (.Name "tuple" p3) [.Call (.Name "range" p) [a] [] p2] [] pos) Γ (rT rInt) (rng 0 n) :=
  PE.imp (pe_tupRg hc hg hm (prg_1 hg2 hm2 h na) nb) fun σ H Q ⟨F0, H0, F, ok, q⟩ => ⟨F0, H0, F, ok, fun v F1 H1 g1 r => ⟨(n : Int), by rw [show v = _ from r, hi], RgOk.of_le (by omega) (by omega) (by omega) (by omega), fun t ht => by
    refine q _ _ _ (g1.trans (Gr.put g1.sub ht)) ?_
    exact ⟨t, _, rfl, .inl (.inl upd_same), by rw [rgV_rng]; exact PL.of_ints _⟩⟩⟩
theorem eo_lstRg {i : Int} (n : Nat) (hc : X.calm = true) (hm : X.mg "list" = none) (hm2 : X.mg "range" = none) (h : EV X a Γ rInt i) (hi : i = n) (hn : n ≤ 16777216) (hg : Gl X "list" := by rfl) (hg2 : Gl X "range" := by rfl)
    (na : starEach [a] X.env = (false, eval a X.env) :: starEach [] X.env := by rfl) (nb : starEach [.Call (.Name "range" p) [a] [] p2] X.env = (false, eval (.Call (.Name "range" p) [a] [] p2) X.env) :: starEach [] X.env := by rfl) :
    EO X (.Call (.Name "list" p3) [.Call (.Name "range" p) [a] [] p2] [] pos) Γ (.ol rInt (rng 0 n)) :=
  PE.imp (pe_listRg hc hg hm (prg_1 hg2 hm2 h na) nb) fun σ H Q ⟨F0, H0, F, ok, q⟩ => ⟨F0, H0, F, ok, fun v F1 H1 g1 r => ⟨(n : Int), by rw [show v = _ from r, hi], RgOk.of_le (by omega) (by omega) (by omega) (by omega), fun t ht => by
    refine q t _ F1 _ (g1.trans (Gr.hold g1.sub ht)) (none_of_same g1.sub ht) (none_of_same g1.hh ht) upd_same ⟨_, rfl, ?_⟩
    rw [rgV_rng]
    exact PL.of_ints _⟩⟩
variable {e : Expr} {es : List Expr}
theorem eb_call {n : Str} {k : Nat} {ι : Type} {As : ι → List Sl} {pre : ι → Prop} {m : ι → Bool} (G : Df X.prog X.w X.K X.mg X.base k n As pre (fun _ => rBool) m) (hr : Room k X.A) (a : ι) (ha : ES X (e :: es) Γ (As a)) (hp : pre a)
    (hg : Gl X n := by rfl) (hk : (n == ("super" : Str)) = false := by decide) (hdb : (n == ("__debug__" : Str)) = false := by decide) (he : starEach (e :: es) X.env = (false, eval e X.env) :: starEach es X.env := by rfl) (hpl : (backTo pos (starEach es X.env)).any (·.1) = false := by rfl)
    (ht : ∀ whole, isTrue (.Call (.Name n p) (e :: es) [] pos) X.env whole = (do let v ← whole; standAt pos; holding [v] (truthy v)) := by intro _; rfl) :
    EB X (.Call (.Name n p) (e :: es) [] pos) Γ (m a) := EB.of (ev_call G hr a ha hp (hg := hg) (hdb := hdb) (he := he) (hpl := hpl)) ht
theorem ev_cal {n : Str} {k : Nat} {ι ρ : Type} {As : ι → List Sl} {pre : ι → Prop} {c : Rp ρ} {m : ι → ρ} {y : ρ} (G : Df X.prog X.w X.K X.mg X.base k n As pre (fun _ => c) m) (hr : Room k X.A) (a : ι) (ha : ES X (e :: es) Γ (As a)) (hp : pre a) (hy : m a = y := by rfl)
    (hg : Gl X n := by rfl) (hk : (n == ("super" : Str)) = false := by decide) (hdb : (n == ("__debug__" : Str)) = false := by decide) (he : starEach (e :: es) X.env = (false, eval e X.env) :: starEach es X.env := by rfl) (hpl : (backTo pos (starEach es X.env)).any (·.1) = false := by rfl) :
    EV X (.Call (.Name n p) (e :: es) [] pos) Γ c y := hy ▸ ev_call G hr a ha hp (hg := hg) (hdb := hdb) (he := he) (hpl := hpl)
theorem eb_cal {n : Str} {k : Nat} {ι : Type} {As : ι → List Sl} {pre : ι → Prop} {m : ι → Bool} {y : Bool} (G : Df X.prog X.w X.K X.mg X.base k n As pre (fun _ => rBool) m) (hr : Room k X.A) (a : ι) (ha : ES X (e :: es) Γ (As a)) (hp : pre a) (hy : m a = y := by rfl)
    (hg : Gl X n := by rfl) (hk : (n == ("super" : Str)) = false := by decide) (hdb : (n == ("__debug__" : Str)) = false := by decide) (he : starEach (e :: es) X.env = (false, eval e X.env) :: starEach es X.env := by rfl) (hpl : (backTo pos (starEach es X.env)).any (·.1) = false := by rfl)
    (ht : ∀ whole, isTrue (.Call (.Name n p) (e :: es) [] pos) X.env whole = (do let v ← whole; standAt pos; holding [v] (truthy v)) := by intro _; rfl) :
    EB X (.Call (.Name n p) (e :: es) [] pos) Γ y := hy ▸ eb_call G hr a ha hp (hg := hg) (hk := hk) (hdb := hdb) (he := he) (hpl := hpl) (ht := ht)
theorem ev_mak {C : Addr} {n : Str} {k : Nat} {ι α : Type} {As : ι → List Sl} {pre : ι → Prop} {c : Rp α} {m : ι → α} {y : α} (G : DfC X.prog X.w X.K X.mg X.base k n C As pre c m) (hr : Room (k + 1) X.A) (a : ι) (ha : ES X (e :: es) Γ (As a)) (hp : pre a) (hy : m a = y := by rfl)
    (hg : Gl X n := by rfl) (hdb : (n == ("__debug__" : Str)) = false := by decide) (he : starEach (e :: es) X.env = (false, eval e X.env) :: starEach es X.env := by rfl) (hpl : (backTo pos (starEach es X.env)).any (·.1) = false := by rfl) :
    EV X (.Call (.Name n p) (e :: es) [] pos) Γ c y := hy ▸ ev_make G hr a ha hp (hg := hg) (hdb := hdb) (he := he) (hpl := hpl)
end
end Z

set_option Elab.async false
set_option linter.all false
set_option maxRecDepth 100000
set_option maxHeartbeats 4000000
/-! Zed: a dict of open lists, each list reached through a name that stands for it. -/
namespace Z
open PySem PySem.Spec PyProof.Rows L2
def rAd : Rp Addr := ⟨fun _ _ v a => v = .ref a, fun _ h => h⟩
/-- a is no slot's cell -/
def NoCel (σ : St) (Γ : List Sl) (a : Addr) : Prop := ∀ (j : Nat) (s : Sl), Γ[j]? = some s → s.cel = true → σ[j]? ≠ some (some (.ref a))
section
variable {K : Frag} {F0 H0 F H F' H' : Hp} {σ : St} {Γ : List Sl}
theorem upd_id {H : Hp} {l : Addr} {o : HO} (h : H l = some o) : upd H l o = H := by
  funext b
  by_cases e : b = l
  · subst e
    rw [upd_same, h]
  · rw [upd_ne e]
theorem Ok.writeX (k : Ok K F0 H0 F H σ Γ) {a : Addr} {ho : HO} (hF : F a = none) (h0 : H0 a = none) (n : NoCel σ Γ a) : Ok K F0 H0 F (upd H a ho) σ Γ := by
  refine ⟨⟨same_upd2 k.gr.hh h0, k.gr.ff, same_upd2 k.gr.sub hF, k.gr.new⟩, k.len, fun j t hj => ?_, k.dis⟩
  obtain ⟨o', e, q'⟩ := k.sl j t hj
  refine ⟨o', e, ?_⟩
  by_cases ct : t.cel = true
  · obtain ⟨l2, e2, c2⟩ := q'.cell ct
    obtain ⟨ho2, h2, q2⟩ := c2.o
    have nl : l2 ≠ a := fun z => by
      subst z
      exact n j t hj ct (e2 ▸ e)
    exact slOk.of_cell ct e2 ⟨c2.f, c2.h0, ⟨ho2, by rw [upd_ne nl]; exact h2, q2⟩, c2.pin⟩
  · cases t with
    | un => trivial
    | v c x => exact q'
    | ol _ _ => exact absurd rfl ct
    | od _ _ => exact absurd rfl ct
    | oc _ _ _ => exact absurd rfl ct
    | ox _ _ => exact absurd rfl ct
theorem Ok.freezeX (k : Ok K F0 H0 F H σ Γ) {a : Addr} {ho : HO} (hF : F a = none) (h0 : H0 a = none) (hH : H a = some ho) (n : NoCel σ Γ a) : Ok K F0 H0 (upd F a ho) H σ Γ := by
  have sf : Same F (upd F a ho) := same_upd hF
  refine ⟨⟨k.gr.hh, k.gr.ff.trans sf, fun b o e => ?_, fun b o e => ?_⟩, k.len, fun j t hj => ?_, k.dis⟩
  · by_cases hb : b = a
    · subst hb
      rw [upd_same] at e
      cases e
      exact hH
    · rw [upd_ne hb] at e
      exact k.gr.sub _ _ e
  · by_cases hb : b = a
    · subst hb
      exact .inr h0
    · rw [upd_ne hb] at e
      exact k.gr.new _ _ e
  · obtain ⟨o', e, q'⟩ := k.sl j t hj
    refine ⟨o', e, ?_⟩
    by_cases ct : t.cel = true
    · obtain ⟨l2, e2, c2⟩ := q'.cell ct
      obtain ⟨ho2, h2, q2⟩ := c2.o
      have nl : l2 ≠ a := fun z => by
        subst z
        exact n j t hj ct (e2 ▸ e)
      exact slOk.of_cell ct e2 ⟨by rw [upd_ne nl]; exact c2.f, c2.h0, ⟨ho2, h2, q2.mono sf⟩, c2.pin⟩
    · cases t with
      | un => trivial
      | v c x =>
        obtain ⟨u, eu, r⟩ := q'
        exact ⟨u, eu, c.mono sf r⟩
      | ol _ _ => exact absurd rfl ct
      | od _ _ => exact absurd rfl ct
      | oc _ _ _ => exact absurd rfl ct
      | ox _ _ => exact absurd rfl ct
theorem inj_of_nodup {β γ : Type} {f : β → γ} : ∀ {l : List β}, (l.map f).Nodup → ∀ {x y : β}, x ∈ l → y ∈ l → f x = f y → x = y
  | [], _, _, _, h, _, _ => by cases h
  | a :: l, nd, x, y, hx, hy, e => by
    rw [List.map_cons, List.nodup_cons] at nd
    rcases List.mem_cons.mp hx with ex | ux
    · rcases List.mem_cons.mp hy with ey | uy
      · rw [ex, ey]
      · rw [ex] at e
        exact absurd (e ▸ List.mem_map_of_mem uy) nd.1
    · rcases List.mem_cons.mp hy with ey | uy
      · rw [ey] at e
        exact absurd (e ▸ List.mem_map_of_mem ux) nd.1
      · exact inj_of_nodup nd.2 ux uy e
variable {κ α : Type} [DecidableEq κ] {kf : κ → Key} {c : Rp α} {i : Nat} {T : List (κ × Addr × List α)}
def adr (T : List (κ × Addr × List α)) : List (κ × Addr) := T.map fun t => (t.1, t.2.1)
def absW (T : List (κ × Addr × List α)) : List (κ × List α) := T.map fun t => (t.1, t.2.2)
def odA (kf : κ → Key) (T : List (κ × Addr × List α)) : Sl := .od rAd ((adr T).map fun p => (kf p.1, p.2))
structure Wl (K : Frag) (kf : κ → Key) (c : Rp α) (i : Nat) (T : List (κ × Addr × List α)) (F0 H0 F H : Hp) (σ : St) (Γ : List Sl) : Prop where
  hi : i < Γ.length
  ok : Ok K F0 H0 F H σ (Γ.set i (odA kf T))
  nd : (T.map fun t => t.2.1).Nodup
  nk : (T.map fun t => t.1).Nodup
  ln : ∀ t ∈ T, F t.2.1 = none ∧ H0 t.2.1 = none ∧ (∃ vs, H t.2.1 = some (.lst vs) ∧ PL c K F vs t.2.2) ∧ NoCel σ (Γ.set i (odA kf T)) t.2.1
theorem Wl.grow (k : Wl K kf c i T F0 H0 F H σ Γ) (g : Gr F H F' H') : Wl K kf c i T F0 H0 F' H' σ Γ :=
  ⟨k.hi, k.ok.grow g, k.nd, k.nk, fun t ht => by
    obtain ⟨h1, h2, ⟨vs, h3, h4⟩, h5⟩ := k.ln t ht
    exact ⟨g.none h1 h3, h2, ⟨vs, g.hh _ _ h3, PL.mono g.ff h4⟩, h5⟩⟩
/-- the dict's own slot -/
theorem Wl.at (k : Wl K kf c i T F0 H0 F H σ Γ) : (Γ.set i (odA kf T))[i]? = some (.od rAd ((adr T).map fun p => (kf p.1, p.2))) := by rw [List.getElem?_set_self k.hi]; rfl
theorem Wl.un (k : Wl K kf c i T F0 H0 F H σ Γ) (hu : Γ[i]? = some .un) : Ok K F0 H0 F H σ Γ := by
  refine k.ok.weak ?_
  have : ∀ (Γ : List Sl) (i : Nat) (s : Sl), Γ[i]? = some .un → Wk (Γ.set i s) Γ := by
    intro Γ
    induction Γ with
    | nil => intro i s h; simp at h
    | cons a Γ ih =>
      intro i s h
      cases i with
      | zero =>
        have e : a = .un := by simpa using h
        exact ⟨.inl e, Wk.refl _⟩
      | succ i => exact ⟨.inr rfl, ih i s (by simpa using h)⟩
  exact this Γ i _ hu
theorem Wl.setV (k : Wl K kf c i T F0 H0 F H σ Γ) {j : Nat} (hj : j ≠ i) {β : Type} {d : Rp β} {x : β} {u : V} (r : d.r K F u x) : Wl K kf c i T F0 H0 F H (σ.set j (some u)) (Γ.set j (.v d x)) := by
  have e : (Γ.set j (.v d x)).set i (odA kf T) = (Γ.set i (odA kf T)).set j (.v d x) := List.set_comm _ _ hj
  refine ⟨by rw [List.length_set]; exact k.hi, by rw [e]; exact k.ok.setV r, k.nd, k.nk, fun t ht => ?_⟩
  obtain ⟨h1, h2, h3, h5⟩ := k.ln t ht
  refine ⟨h1, h2, h3, ?_⟩
  rw [e]
  intro m s hm cm
  rcases set_get hm with ⟨rfl, rfl, _⟩ | ⟨hne, hm⟩
  · cases cm
  · rw [List.getElem?_set_ne hne]
    exact h5 m s hm cm
/-- less known -/
theorem Wl.weak {Γ' : List Sl} (k : Wl K kf c i T F0 H0 F H σ Γ) (w : Wk Γ Γ') : Wl K kf c i T F0 H0 F H σ Γ' := by
  have w2 : Wk (Γ.set i (odA kf T)) (Γ'.set i (odA kf T)) := Wk.set w
  refine ⟨by rw [← w.len]; exact k.hi, k.ok.weak w2, k.nd, k.nk, fun t ht => ?_⟩
  obtain ⟨h1, h2, h3, h5⟩ := k.ln t ht
  refine ⟨h1, h2, h3, fun m s hm cm => ?_⟩
  rcases w2.get hm with e | h
  · subst e
    cases cm
  · exact h5 m s h cm
theorem dput_fresh {β : Type} {kvs : List (κ × β)} {k : κ} {y : β} (h : dlook kvs k = none) : dput kvs k y = kvs ++ [(k, y)] := by
  unfold dput
  rw [dlook_any, h]
  rfl
theorem dput_old {β : Type} {kvs : List (κ × β)} {k : κ} {y : β} (h : (dlook kvs k).isSome = true) : dput kvs k y = kvs.map fun kv => if kv.1 = k then (kv.1, y) else kv := by
  unfold dput
  rw [dlook_any, h]
  rfl
theorem adr_keys : (adr T).map (·.1) = T.map (·.1) := by
  unfold adr
  rw [List.map_map]
  rfl
theorem absW_keys : (absW T).map (·.1) = T.map (·.1) := by
  unfold absW
  rw [List.map_map]
  rfl
theorem look_both {k : κ} : (dlook (adr T) k).isSome = (dlook (absW T) k).isSome := by
  by_cases h : k ∈ T.map (·.1)
  · rw [dlook_isSome.mpr (by rw [adr_keys]; exact h), dlook_isSome.mpr (by rw [absW_keys]; exact h)]
  · have h1 : (dlook (adr T) k).isSome = false := Bool.eq_false_iff.mpr fun e => h (by rw [← adr_keys]; exact dlook_isSome.mp e)
    have h2 : (dlook (absW T) k).isSome = false := Bool.eq_false_iff.mpr fun e => h (by rw [← absW_keys]; exact dlook_isSome.mp e)
    rw [h1, h2]
/-- a fresh list under a fresh key -/
theorem Wl.new (k : Wl K kf c i T F0 H0 F H σ Γ) (inj : ∀ a b, kf a = kf b → a = b) {j : κ} (hj : dlook (adr T) j = none) {l a : Addr} {ps : List (Key × V)} (hl : σ[i]? = some (some (.ref l))) (g : Gr F H F' H') (hps : H' l = some (.dK ps))
    (haF : F' a = none) (haH : H a = none) (ha : H' a = some (.lst [])) : Wl K kf c i (T ++ [(j, a, [])]) F0 H0 F' (upd H' l (.dK (putK ps (kf j) (.ref a)))) σ Γ := by
  have kg := k.grow g
  obtain ⟨l', ps', hl', hps', _, _, pd⟩ := tvar_cell kg.ok kg.at
  rw [hl] at hl'
  cases hl'
  rw [hps] at hps'
  cases hps'
  have ea : adr (T ++ [(j, a, [])]) = dput (adr T) j a := by
    rw [dput_fresh hj]
    simp [adr]
  have hal : a ≠ l := fun e => by
    subst e
    rw [hps] at ha
    cases ha
  have fresh : ∀ t ∈ T, t.2.1 ≠ a := fun t ht e => by
    obtain ⟨_, _, ⟨vs, h3, _⟩, _⟩ := k.ln t ht
    rw [e, haH] at h3
    cases h3
  have hjk : j ∉ T.map (·.1) := fun h => by
    rw [← adr_keys] at h
    have := dlook_isSome.mpr h
    rw [hj] at this
    cases this
  have cels : ∀ (m : Nat) (s : Sl), (Γ.set i (odA kf (T ++ [(j, a, [])])))[m]? = some s → s.cel = true → ∃ s', (Γ.set i (odA kf T))[m]? = some s' ∧ s'.cel = true := fun m s hm cm => by
    rcases set_get hm with ⟨rfl, rfl, _⟩ | ⟨hne, hm⟩
    · exact ⟨_, k.at, rfl⟩
    · exact ⟨s, by rw [List.getElem?_set_ne hne]; exact hm, cm⟩
  refine ⟨k.hi, ?_, ?_, ?_, fun t ht => ?_⟩
  · have := kg.ok.write (s' := odA kf (T ++ [(j, a, [])])) kg.at rfl hl (ho := .dK (putK ps (kf j) (.ref a))) ⟨_, rfl, by
      rw [ea]
      exact pd_put (c := rAd) inj rfl pd⟩ trivial
    rw [List.set_set] at this
    exact this
  · rw [List.map_append, List.map_cons, List.map_nil, List.nodup_append]
    refine ⟨k.nd, by simp, fun x hx y hy => ?_⟩
    rw [List.mem_singleton] at hy
    subst hy
    obtain ⟨t, ht, rfl⟩ := List.mem_map.mp hx
    exact fresh t ht
  · rw [List.map_append, List.map_cons, List.map_nil, List.nodup_append]
    refine ⟨k.nk, by simp, fun x hx y hy => ?_⟩
    rw [List.mem_singleton] at hy
    subst hy
    exact fun e => hjk (e ▸ hx)
  · rcases List.mem_append.mp ht with ht | ht
    · obtain ⟨h1, h2, ⟨vs, h3, h4⟩, h5⟩ := kg.ln t ht
      have hne : t.2.1 ≠ l := fun e => h5 i _ kg.at rfl (e ▸ hl)
      refine ⟨h1, h2, ⟨vs, by rw [upd_ne hne]; exact h3, h4⟩, fun m s hm cm => ?_⟩
      obtain ⟨s', hs', cs'⟩ := cels m s hm cm
      exact h5 m s' hs' cs'
    · rw [List.mem_singleton] at ht
      subst ht
      refine ⟨haF, none_of_same k.ok.gr.hh haH, ⟨[], by rw [upd_ne hal]; exact ha, .nil⟩, fun m s hm cm e => ?_⟩
      obtain ⟨s', hs', cs'⟩ := cels m s hm cm
      obtain ⟨l2, e2, c2⟩ := k.ok.cell hs' cs'
      rw [e] at e2
      cases e2
      obtain ⟨ho, hh, _⟩ := c2.o
      rw [haH] at hh
      cases hh
def appW (T : List (κ × Addr × List α)) (j : κ) (x : α) : List (κ × Addr × List α) := T.map fun t => if t.1 = j then (t.1, t.2.1, t.2.2 ++ [x]) else t
theorem appW_adr {j : κ} {x : α} : adr (appW T j x) = adr T := by
  unfold adr appW
  rw [List.map_map]
  refine List.map_congr_left fun t _ => ?_
  show ((if t.1 = j then (t.1, t.2.1, t.2.2 ++ [x]) else t).1, (if t.1 = j then (t.1, t.2.1, t.2.2 ++ [x]) else t).2.1) = _
  split <;> rfl
theorem adr_ad : T.map (fun t => t.2.1) = (adr T).map (·.2) := by
  unfold adr
  rw [List.map_map]
  rfl
/-- one more in the list under j -/
theorem Wl.app (k : Wl K kf c i T F0 H0 F H σ Γ) {j : κ} {a : Addr} {xs : List α} (ht0 : (j, a, xs) ∈ T) {vs : List V} {v : V} {x : α} (hv : H a = some (.lst vs)) (r : c.r K F v x) : Wl K kf c i (appW T j x) F0 H0 F (upd H a (.lst (vs ++ [v]))) σ Γ := by
  have eo : odA kf (appW T j x) = odA kf T := by
    unfold odA
    rw [appW_adr]
  obtain ⟨g1, g2, ⟨vs', g3, g4⟩, g5⟩ := k.ln _ ht0
  have ev : vs' = vs := by
    have g3' : H a = some (.lst vs') := g3
    rw [hv] at g3'
    cases g3'
    rfl
  subst ev
  refine ⟨k.hi, by rw [eo]; exact k.ok.writeX g1 g2 g5, by rw [adr_ad, appW_adr, ← adr_ad]; exact k.nd, by rw [← adr_keys, appW_adr, adr_keys]; exact k.nk, fun t ht => ?_⟩
  rw [eo]
  obtain ⟨u, hu, rfl⟩ := List.mem_map.mp ht
  by_cases e : u.1 = j
  · have eu : u = (j, a, xs) := inj_of_nodup k.nk hu ht0 e
    subst eu
    rw [if_pos rfl]
    exact ⟨g1, g2, ⟨_, upd_same, Paired.append g4 (.cons r .nil)⟩, g5⟩
  · rw [if_neg e]
    obtain ⟨h1, h2, ⟨ws, h3, h4⟩, h5⟩ := k.ln u hu
    have hne : u.2.1 ≠ a := fun z => e (by rw [inj_of_nodup k.nd hu ht0 z])
    exact ⟨h1, h2, ⟨ws, by rw [upd_ne hne]; exact h3, h4⟩, h5⟩
/-- all lists frozen, and the dict one of frozen lists -/
theorem Wl.fz (k : Wl K kf c i T F0 H0 F H σ Γ) : ∃ F', Same F F' ∧ Ok K F0 H0 F' H σ (Γ.set i (.od (rL c) ((absW T).map fun p => (kf p.1, p.2)))) := by
  have step : ∀ (U : List (κ × Addr × List α)) (F : Hp), (U.map fun t => t.2.1).Nodup → Ok K F0 H0 F H σ (Γ.set i (odA kf T)) → (∀ t ∈ U, F t.2.1 = none ∧ H0 t.2.1 = none ∧ (∃ vs, H t.2.1 = some (.lst vs) ∧ PL c K F vs t.2.2) ∧ NoCel σ (Γ.set i (odA kf T)) t.2.1) →
      ∃ F', Same F F' ∧ Ok K F0 H0 F' H σ (Γ.set i (odA kf T)) ∧ ∀ t ∈ U, (rL c).r K F' (.ref t.2.1) t.2.2 := by
    intro U
    induction U with
    | nil => intro F _ ok _; exact ⟨F, Same.refl _, ok, fun t ht => by cases ht⟩
    | cons u U ih =>
      intro F nd ok h
      rw [List.map_cons, List.nodup_cons] at nd
      obtain ⟨h1, h2, ⟨vs, h3, h4⟩, h5⟩ := h u (List.mem_cons_self ..)
      have sf : Same F (upd F u.2.1 (.lst vs)) := same_upd h1
      obtain ⟨F', s', ok', q⟩ := ih _ nd.2 (ok.freezeX h1 h2 h3 h5) fun t ht => by
        obtain ⟨g1, g2, ⟨ws, g3, g4⟩, g5⟩ := h t (List.mem_cons_of_mem _ ht)
        have hne : t.2.1 ≠ u.2.1 := fun e => nd.1 (e ▸ List.mem_map_of_mem (f := fun t : κ × Addr × List α => t.2.1) ht)
        exact ⟨by rw [upd_ne hne]; exact g1, g2, ⟨ws, g3, PL.mono sf g4⟩, g5⟩
      refine ⟨F', sf.trans s', ok', fun t ht => ?_⟩
      rcases List.mem_cons.mp ht with rfl | ht
      · exact (rL c).mono s' ⟨t.2.1, vs, rfl, upd_same, PL.mono sf h4⟩
      · exact q t ht
  obtain ⟨F', s', ok', q⟩ := step T F k.nd k.ok k.ln
  obtain ⟨l, ps, hl, hps, _, _, pd⟩ := tvar_cell ok' k.at
  refine ⟨F', s', ?_⟩
  have := ok'.write (s' := .od (rL c) ((absW T).map fun p => (kf p.1, p.2))) k.at rfl hl (ho := .dK ps) ⟨ps, rfl, ?_⟩ trivial
  · rw [upd_id hps, List.set_set] at this
    exact this
  · clear hps step ok' hl k
    unfold adr at pd
    unfold absW
    rw [List.map_map] at pd ⊢
    revert ps
    induction T with
    | nil =>
      intro ps pd
      cases pd
      exact .nil
    | cons t T ih =>
      intro ps pd
      obtain _ | ⟨r, pd⟩ := pd
      refine .cons ⟨r.1, ?_⟩ (ih (fun u hu => q u (List.mem_cons_of_mem _ hu)) _ pd)
      have := q t (List.mem_cons_self ..)
      rw [show _ = _ from r.2]
      exact this
theorem abs_step {j : κ} {x : α} (nk : (T.map fun t => t.1).Nodup) {a : Addr} {xs : List α} (h : (j, a, xs) ∈ T) : absW (appW T j x) = dput (absW T) j ((dlook (absW T) j).getD [] ++ [x]) := by
  have hs : (dlook (absW T) j).isSome = true := dlook_isSome.mpr (by rw [absW_keys]; exact List.mem_map_of_mem (f := fun t : κ × Addr × List α => t.1) h)
  have hl : dlook (absW T) j = some xs := by
    cases e : dlook (absW T) j with
    | none => rw [e] at hs; cases hs
    | some ys =>
      have hm := dlook_mem e
      obtain ⟨t, ht, et⟩ := List.mem_map.mp hm
      have : t = (j, a, xs) := inj_of_nodup nk ht h (congrArg (·.1) et)
      subst this
      cases et
      rfl
  rw [dput_old hs, hl]
  unfold absW appW
  rw [List.map_map, List.map_map]
  refine List.map_congr_left fun t ht => ?_
  show ((if t.1 = j then (t.1, t.2.1, t.2.2 ++ [x]) else t).1, (if t.1 = j then (t.1, t.2.1, t.2.2 ++ [x]) else t).2.2) = if t.1 = j then (t.1, (some xs).getD [] ++ [x]) else (t.1, t.2.2)
  by_cases e : t.1 = j
  · have : t = (j, a, xs) := inj_of_nodup nk ht h e
    subst this
    rw [if_pos rfl, if_pos rfl]
    rfl
  · rw [if_neg e, if_neg e]
end
end Z

set_option Elab.async false
set_option linter.all false
set_option maxRecDepth 100000
set_option maxHeartbeats 4000000
namespace Z
open PySem PySem.Spec PyProof.Rows L2
section
variable {κ α : Type} [DecidableEq κ]
def tW (K : Frag) (kf : κ → Key) (c : Rp α) (i : Nat) (d : List (κ × List α)) (Γ : List Sl) (N : List (κ × List α) → List Sl → Prop) : TS := fun D σ H =>
  ∃ F0 H0 F T, Wl K kf c i T F0 H0 F H σ Γ ∧ absW T = d ∧ ∀ T' Γ' σ' F' H', N (absW T') Γ' → Same F F' → Wl K kf c i T' F0 H0 F' H' σ' Γ' → D.nx σ' H'
abbrev WS (X : Cx) (sts : List Stmt) (kf : κ → Key) (c : Rp α) (i : Nat) (d : List (κ × List α)) (Γ : List Sl) (N : List (κ × List α) → List Sl → Prop) : Prop := PSs X sts (tW X.K kf c i d Γ N)
variable {β : Type} {X : Cx} {kf : κ → Key} {c : Rp α} {i : Nat} {d : List (κ × List α)} {Γ : List Sl} {N : List (κ × List α) → List Sl → Prop} {e a1 a2 a3 : Expr} {rest : List Stmt} {pos p p1 p2 p3 p4 p5 p6 p7 p8 p9 p10 p11 p12 p13 : Pos} {c' : Rp β} {x : β} {y : α} {ck : Rp κ} {k : κ}
theorem ws_nil (h : N d Γ) : WS X [] kf c i d Γ N := PSs.imp pss_nil fun D σ H ⟨F0, H0, F, T, w, e, q⟩ => q T Γ σ F H (e ▸ h) (Same.refl _) w
theorem ws_set (j : Nat) {n : Str} (hj : j ≠ i) (hu : Γ[i]? = some .un) (hN : X.N.Nodup) (he : EV X e Γ c' x) (h : WS X rest kf c i d (Γ.set j (.v c' x)) N) (hi : X.N[j]? = some n := by rfl) (hx : Loc X.env.scope n := by first | exact Or.inl rfl | exact Or.inr rfl)
    (hs : swapsWith e (some (.Name n p)) pos.line X.env = pure false := by rfl) (hf : X.fn n = true ∨ X.env.scope.names.lookup n = some .local := by first | exact .inl rfl | exact .inr rfl) : WS X (.Assign [.Name n p] e pos :: rest) kf c i d Γ N :=
  PSs.imp (pss_cons (ps_set hN hi hx he hs hf) h) fun D σ H ⟨F0, H0, F, T, w, e, q⟩ => ⟨F0, H0, F, w.un hu, fun v F' H' g r => ⟨F0, H0, F', T, (w.grow g).setV hj r, e, fun T' Γ' σ' F'' H'' n s k => q T' Γ' σ' F'' H'' n (g.ff.trans s) k⟩⟩
theorem ws_weak {Γ' : List Sl} (h : WS X rest kf c i d Γ' N) (w : Wk Γ Γ') : WS X rest kf c i d Γ N := PSs.imp h fun D σ H ⟨F0, H0, F, T, k, e, q⟩ => ⟨F0, H0, F, T, k.weak w, e, q⟩
/-- if k not in d: d[k] = []; m = d[k]; m.append(e) -/
theorem ws_alias {kk : Nat} (m : Nat) {n nm : Str} (ky : Ky ck kf) (hr : Room kk X.A) (hN : X.N.Nodup) (hmi : m ≠ i) (hu : Γ[i]? = some .un) (hum : Γ[m]? = some .un) (ha1 : EV X a1 Γ ck k) (ha2 : EV X a2 Γ ck k) (ha3 : EV X a3 Γ ck k) (he : EV X e Γ c y)
    (hz : d.length < 16777216) (hz2 : ((dlook d k).getD []).length < 16777216) (h : WS X rest kf c i (dput d k ((dlook d k).getD [] ++ [y])) Γ N) (hNi : X.N[i]? = some n := by rfl) (hNm : X.N[m]? = some nm := by rfl)
    (hv : Vis X.env.scope n := by first | exact Or.inl rfl | exact Or.inr (Or.inl rfl) | exact Or.inr (Or.inr rfl)) (hd : (n == ("__debug__" : Str)) = false := by decide) (hcd : (n == ("__classdict__" : Str)) = false := by decide)
    (hvm : Vis X.env.scope nm := by first | exact Or.inl rfl | exact Or.inr (Or.inl rfl) | exact Or.inr (Or.inr rfl)) (hdm : (nm == ("__debug__" : Str)) = false := by decide) (hcdm : (nm == ("__classdict__" : Str)) = false := by decide)
    (hm : behindInMarks .NotIn (.Name n p1) = false := by with_unfolding_all rfl) (hs1 : swapsWith (.List [] p4) (some (.Subscript (.Name n p2) a2 p3)) p5.line X.env = pure false := by rfl) (hs3 : NoSl a3 := by intro _ _; rfl)
    (hxm : Loc X.env.scope nm := by first | exact Or.inl rfl | exact Or.inr rfl) (hsm : swapsWith (.Subscript (.Name n p8) a3 p9) (some (.Name nm p7)) p10.line X.env = pure false := by rfl) (hfm : X.fn nm = true ∨ X.env.scope.names.lookup nm = some .local := by first | exact .inl rfl | exact .inr rfl)
    (hbase : attributeBase (.Name nm p11) "append" X.env (eval (.Name nm p11) X.env) = eval (.Name nm p11) X.env := by rfl)
    (hfew : ((backTo p13 (starEach [e] X.env)).all (fun x => !x.1) && (backToKw p13 (keywordEach [] X.env)).all (fun x => x.1.isSome)
      && decide (([e] : List Expr).length + ([] : List Keyword).length + (if ([] : List Keyword).isEmpty then 0 else 1) < 30)) = true := by rfl)
    (hline : (p12.endLine == p13.line) = true := by rfl) (hse : starEach [e] X.env = [(false, eval e X.env)] := by rfl) (hplain : (backTo p13 (starEach [] X.env)).any (·.1) = false := by rfl)
    (hsx : swapsWith (.Call (.Attribute (.Name nm p11) "append" p12) [e] [] p13) none pos.line X.env = pure false := by rfl) :
    WS X (.If (.Compare a1 [.NotIn] [.Name n p1] p) [.Assign [.Subscript (.Name n p2) a2 p3] (.List [] p4) p5] [] p6 :: .Assign [.Name nm p7] (.Subscript (.Name n p8) a3 p9) p10 :: .Expr (.Call (.Attribute (.Name nm p11) "append" p12) [e] [] p13) pos :: rest) kf c i d Γ N := by
  refine PSs.imp (pss_cons (ps_if (pt_cmp (pc_dnotin (hu_of hr) ha1 (pv i hNi hv hd hcd)) hm) (pss_cons (ps_dput (hu_of hr) (pv i hNi hv hd hcd) ha2 (eo_nil (Γ := Γ) (c := c)) hs1) pss_nil) pss_nil)
    (pss_cons (ps_set hN hNm hxm (pe_dget (hu_of hr) (pv i hNi hv hd hcd) ha3 hs3) hsm hfm) (pss_cons (ps_expr (pe_bm PySem.F.plainAttrs_list PySem.F.slot_list_append PySem.F.type_list_append mt_append (pv m hNm hvm hdm hcdm) (ea1 he hse) hbase hfew hline hse hplain) hsx) h))) ?_
  rintro D σ H ⟨F0, H0, F, T, w, ed, q⟩
  -- what stands behind the if
  have tail : ∀ (T2 : List (κ × Addr × List α)) (F2 H2 : Hp) (a : Addr) (xs : List α), Wl X.K kf c i T2 F0 H0 F2 H2 σ Γ → Same F F2 → (k, a, xs) ∈ T2 → xs.length < 16777216 → absW (appW T2 k y) = dput d k ((dlook d k).getD [] ++ [y]) →
      tSeq (tAsg (tDGet (tVar i) (tE X.K Γ (vv ck k))) (gName m)) (tSeq (tDrop (tBM X.K "list" rAppend (tVar m) (tEA X.K Γ [vv c y]))) (tW X.K kf c i (dput d k ((dlook d k).getD [] ++ [y])) Γ N)) D σ H2 := by
    intro T2 F2 H2 a xs w2 s2 hm2 hx eab
    obtain ⟨l, ps, hl, hps, _, _, pd⟩ := tvar_cell w2.ok w2.at
    refine ⟨_, hl, F0, H0, F2, w2.un hu, fun v F3 H3 g3 r3 => ?_⟩
    have ev : v = kV (kf k) := ky.v r3
    subst ev
    have w3 := w2.grow g3
    obtain ⟨l', ps', hl', hps3, _, _, pd3⟩ := tvar_cell w3.ok w3.at
    rw [hl] at hl'
    cases hl'
    have hma : (k, a) ∈ adr T2 := List.mem_map.mpr ⟨_, hm2, rfl⟩
    have hval : valV ps' (kf k) = some (.ref a) := by
      have hs := dlook_isSome.mpr (List.mem_map_of_mem (f := fun t : κ × Addr => t.1) hma)
      rcases pd_look ky.inj (k := k) pd3 with ⟨_, h2⟩ | ⟨u, b, h1, h2, r'⟩
      · rw [h2] at hs
        cases hs
      · have hmb := dlook_mem h2
        obtain ⟨t, ht, et⟩ := List.mem_map.mp hmb
        have : t = (k, a, xs) := inj_of_nodup w2.nk ht hm2 (congrArg (·.1) et)
        subst this
        cases et
        rw [h1, show u = _ from r']
    refine ⟨l, .ref a, rfl, by rw [← hval]; exact DGet.k hps3, ?_⟩
    have hml : m < σ.length := by
      rw [(w3.un hu).len]
      exact (List.getElem?_eq_some_iff.mp hum).1
    obtain ⟨_, _, ⟨vs, hH3, pl⟩, _⟩ := w3.ln _ hm2
    have w4 : Wl X.K kf c i T2 F0 H0 F3 H3 (σ.set m (some (.ref a))) Γ := (w3.setV (d := rAd) (x := a) hmi rfl).weak (by
      have : ∀ (Γ : List Sl) (j : Nat) (s : Sl), Γ[j]? = some .un → Wk (Γ.set j s) Γ := by
        intro Γ
        induction Γ with
        | nil => intro i s h; simp at h
        | cons a Γ ih =>
          intro i s h
          cases i with
          | zero =>
            have e : a = .un := by simpa using h
            exact ⟨.inl e, Wk.refl _⟩
          | succ i => exact ⟨.inr rfl, ih i s (by simpa using h)⟩
      exact this Γ m _ hum)
    refine ⟨.ref a, by rw [List.getElem?_set_self hml], .inl ⟨rfl, vs, SqL.of hH3⟩, F0, H0, F3, w4.un hu, fun us F4 H4 g4 pa => ?_⟩
    obtain _ | ⟨r, pn⟩ := pa
    cases pn
    have w5 := w4.grow g4
    refine ⟨a, vs, _, rfl, rfl, g4.hh _ _ hH3, by rw [Paired.length pl, sizeLine_eq]; exact hx, F0, H0, F4, appW T2 k y, w5.app hm2 (g4.hh _ _ hH3) r, eab, fun T' Γ' σ' F'' H'' n s kx => q T' Γ' σ' F'' H'' n (s2.trans (g3.ff.trans (g4.ff.trans s))) kx⟩
  refine ⟨F0, H0, F, w.un hu, fun v F1 H1 g1 r => ?_⟩
  have w1 := w.grow g1
  obtain ⟨l, ps, hl, hps, _, _, pd⟩ := tvar_cell w1.ok w1.at
  have ev : v = kV (kf k) := ky.v r
  subst ev
  refine ⟨_, hl, l, _, rfl, DGet.k hps, _, rfl, ?_⟩
  have hb := look_both (T := T) (k := k)
  rw [ed] at hb
  rcases pd_look ky.inj (k := k) pd with ⟨h1, h2⟩ | ⟨u, a, h1, h2, r'⟩
  · -- a new key
    rw [h1]
    have hd0 : dlook d k = none := by
      rw [h2] at hb
      cases e : dlook d k with
      | none => rfl
      | some z => rw [e] at hb; cases hb
    refine iteT ⟨F0, H0, F1, w1.un hu, fun a ho F2 H2 g2 haF haH ha ⟨vs, eo, pl⟩ => ?_⟩
    subst eo
    cases pl
    have hl2 := hl
    refine ⟨_, hl2, F0, H0, F2, (w1.grow g2).un hu, fun v2 F3 H3 g3 r3 => ?_⟩
    have ev2 : v2 = kV (kf k) := ky.v r3
    subst ev2
    have g23 := g2.trans g3
    have hps3 := g23.hh _ _ hps
    have hlen : ps.length = d.length := by
      rw [Paired.length pd, List.length_map, ← ed]
      simp [adr, absW]
    refine ⟨l, _, rfl, DPut.k hps3 (by rw [hlen, sizeLine_eq]; exact hz), ?_⟩
    have w3 := w1.new ky.inj h2 hl g23 hps3 (g3.none haF ha) haH (g3.hh _ _ ha)
    have hm2 : (k, a, ([] : List α)) ∈ T ++ [(k, a, [])] := by simp
    refine tail _ _ _ a [] w3 (g1.ff.trans g23.ff) hm2 (by simp) ?_
    rw [abs_step w3.nk hm2]
    have ea : absW (T ++ [(k, a, ([] : List α))]) = d ++ [(k, [])] := by rw [← ed]; simp [absW]
    have hs : dlook (d ++ [(k, ([] : List α))]) k = some [] := by
      rw [dlook_snoc _ _ _ _ hd0, if_pos rfl]
    rw [ea, hs, hd0, dput_fresh hd0, dput_old (by rw [hs]; rfl), List.map_append]
    congr 1
    · refine (List.map_congr_left (g := id) fun t ht => ?_).trans (List.map_id d)
      have : t.1 ≠ k := fun e => by
        have := dlook_isSome.mpr (e ▸ List.mem_map_of_mem (f := fun t : κ × List α => t.1) ht)
        rw [hd0] at this
        cases this
      rw [if_neg this]
      rfl
    · simp
  · rw [h1]
    have hma := dlook_mem h2
    obtain ⟨t, ht, et⟩ := List.mem_map.mp hma
    obtain ⟨t1, t2, t3⟩ := t
    have e1 : k = t1 := (congrArg Prod.fst et).symm
    have e2 : a = t2 := (congrArg Prod.snd et).symm
    subst e1
    subst e2
    have hs : dlook d k = some t3 := by
      have hk : (k, t3) ∈ d := by
        rw [← ed]
        exact List.mem_map.mpr ⟨_, ht, rfl⟩
      have hsm := dlook_isSome.mpr (List.mem_map_of_mem (f := fun t : κ × List α => t.1) hk)
      cases e : dlook d k with
      | none => rw [e] at hsm; cases hsm
      | some z =>
        have hz := dlook_mem e
        have nk : (d.map (·.1)).Nodup := by
          rw [← ed, absW_keys]
          exact w.nk
        have := inj_of_nodup nk hz hk rfl
        cases this
        rfl
    refine iteF (tail T F1 H1 a t3 w1 g1.ff ht (by rw [hs] at hz2; exact hz2) ?_)
    rw [abs_step w.nk ht, ed]
def tWa (X : Cx) (sts : List Stmt) (kf : κ → Key) (c : Rp α) (i : Nat) : TS := fun D σ H => ∃ (d : List (κ × List α)) (Γ : List Sl) (N : List (κ × List α) → List Sl → Prop), WS X sts kf c i d Γ N ∧ tW X.K kf c i d Γ N D σ H
theorem wsa {sts : List Stmt} : PSs X sts (tWa X sts kf c i) := ⟨fun pins s σ H D I ⟨d, Γ, N, h, q⟩ => h.run pins s σ H D I q⟩
theorem set_self {γ : Type _} {l : List γ} {i : Nat} {s : γ} (h : l[i]? = some s) : l.set i s = l := by
  have hl := (List.getElem?_eq_some_iff.mp h).1
  refine List.ext_getElem? fun j => ?_
  by_cases e : i = j
  · subst e
    rw [List.getElem?_set_self hl, h]
  · rw [List.getElem?_set_ne e]
variable {ρ : Type} {O : Out ρ} {iter : Expr} {body : List Stmt} {xs : List β}
/-- a loop that fills a dict of open lists; behind it the lists are frozen -/
theorem ss_forW (j i : Nat) {nj : Str} {pj : Pos} (kf : κ → Key) (c : Rp α) (f : List (κ × List α) → β → List (κ × List α)) (Γ1 : List Sl) (Iv : Nat → List (κ × List α) → Prop) (hi : IT X (.Name nj pj) iter Γ c' xs)
    (h0 : Γ[i]? = some (.od rAd [])) (hw : Wk (Γ.set i .un) Γ1) (hji : j ≠ i) (hN : X.N.Nodup) (hI0 : Iv 0 []) (hI : ∀ m x d, xs[m]? = some x → Iv m d → Iv (m + 1) (f d x))
    (hs : ∀ m x d, xs[m]? = some x → Iv m d → WS X body kf c i d (Γ1.set j (.v c' x)) (fun d' Γ' => d' = f d x ∧ Wk Γ' Γ1))
    (hd : Iv xs.length (xs.foldl f []) → SS X rest (Γ1.set i (.od (rL c) ((xs.foldl f []).map fun p => (kf p.1, p.2)))) O)
    (hNj : X.N[j]? = some nj := by rfl) (hx : Loc X.env.scope nj := by first | exact Or.inl rfl | exact Or.inr rfl) (hfn : X.fn nj = true ∨ X.env.scope.names.lookup nj = some .local := by first | exact .inl rfl | exact .inr rfl)
    (hp : PassesOwn (model X.prog X.w) X.A X.env X.xe := by exact PassesOwn.never) (hc : X.calm = true := by rfl) (hf : ∀ x, foldedSetIterable iter X.env x = pure x := by intro _; rfl) :
    SS X (.For (.Name nj pj) iter body [] pos :: rest) Γ O := by
  have iv : ∀ m, m ≤ xs.length → Iv m ((xs.take m).foldl f []) := by
    intro m
    induction m with
    | zero => intro _; exact hI0
    | succ m ih =>
      intro h
      have hx : xs[m]? = some xs[m] := List.getElem?_eq_getElem h
      rw [foldl_take_succ hx]
      exact hI m _ _ hx (ih (Nat.le_of_lt h))
  refine ss_step (ps_for hp hc hi (pg_name hN hNj hx hfn) (wsa (kf := kf) (c := c) (i := i)) hf) fun F0 H0 F D σ H ok q => ⟨F0, H0, F, ok, fun J F1 H1 g1 wk => ?_⟩
  have hwl := hw.len
  rw [List.length_set] at hwl
  have hil : i < Γ1.length := by
    rw [← hwl]
    exact (List.getElem?_eq_some_iff.mp h0).1
  have w0 : Wl X.K kf c i [] F0 H0 F1 H1 σ Γ1 := by
    refine ⟨hil, (ok.grow g1).weak ?_, List.nodup_nil, List.nodup_nil, fun t ht => by cases ht⟩
    have := Wk.set (i := i) (s := odA kf ([] : List (κ × Addr × List α))) hw
    rw [List.set_set, set_self (l := Γ) (s := odA kf ([] : List (κ × Addr × List α))) h0] at this
    exact this
  refine for_it wk (fun m σ' H' => ∃ F' T, Wl X.K kf c i T F0 H0 F' H' σ' Γ1 ∧ absW T = (xs.take m).foldl f [] ∧ Same F1 F') ⟨F1, [], w0, rfl, Same.refl _⟩ (fun m σ' H' _ ⟨F', T, w, _, s⟩ => s.trans w.ok.sub) (fun m v σ' H' H2 hlt ⟨F', T, w, e, s⟩ yz => ?_) fun σ' H' ⟨F', T, w, e, s⟩ => ?_
  · obtain ⟨F2, y, g2, hy, ry⟩ := yz F' s w.ok.sub
    have hlt := (List.getElem?_eq_some_iff.mp hy).1
    refine ⟨_, _, _, hs m y _ hy (iv m (Nat.le_of_lt hlt)), F0, H0, F2, T, (w.grow g2).setV hji ry, e, fun T' Γ' σ3 F3 H3 h3 s3 k3 => ⟨F3, T', k3.weak h3.2, ?_, (s.trans g2.ff).trans s3⟩⟩
    rw [h3.1, foldl_take_succ hy]
  · obtain ⟨F2, s2, ok2⟩ := w.fz
    rw [e, List.take_length] at ok2
    have h1 := iv xs.length (Nat.le_refl _)
    rw [List.take_length] at h1
    exact ⟨_, O, hd h1, F0, H0, F2, ok2, q.step (g1.ff.trans (s.trans s2))⟩
end
end Z

set_option Elab.async false
set_option linter.all false
set_option maxRecDepth 100000
set_option maxHeartbeats 4000000
/-! Zed: dicts whose keys are nested tuples. -/
namespace Z
open PySem PySem.Spec PyProof.Rows L2

/-! ### keys -/
structure Nk (κ : Type) where
  c : Rp κ
  n : κ → NestedKey
  is : ∀ {X : Cx} {pins : List (Addr × Obj)} {σ : St} {H : Hp} {s : Shared} {v : V} {u : Value} {k : κ}, Inv X pins σ H s → c.r X.K H v k → RelV v u → NestedIs s.heap (n k) u
  inj : ∀ a b, n a = n b → a = b
  m : Nat
  dep : ∀ k, (n k).depth ≤ m
def nkI : Nk Int where
  c := rInt
  n := fun i => .num i
  is := fun I r h => by
    cases (show _ = _ from r)
    obtain ⟨t, rfl⟩ := h
    exact .int _ t
  inj := fun a b h => by injection h
  m := 0
  dep := fun _ => Nat.le_refl _
def nkT : Nk (List Nat) where
  c := rTx
  n := fun l => .text (tx l)
  is := fun I r h => by
    cases (show _ = _ from r)
    obtain ⟨t, rfl⟩ := h
    exact .text _ t
  inj := fun a b h => by
    injection h with h
    exact tx_inj h
  m := 0
  dep := fun _ => Nat.le_refl _
theorem isTup_nested {h : Heap} {a : Addr} {its : List Value} {ks : List NestedKey} (t : IsTup h a its.toArray) (q : NestedAll h ks its) : NestedIs h (.tup ks) (.ref a) := by
  obtain ⟨o, ho, hc, n, hd⟩ := t
  exact .tup ho hc hd (by simpa using q)
def nkS {κ : Type} (N : Nk κ) : Nk (List κ) where
  c := rT N.c
  n := fun l => .tup (l.map N.n)
  is := fun {X pins σ H s v u k} I r h => by
    obtain ⟨a, vs, e, hs, pl⟩ := r
    subst e
    obtain rfl : u = Value.ref a := h
    obtain ⟨its, r, t, hz⟩ := I.tuple hs
    refine isTup_nested t ?_
    clear t hs hz
    revert its vs
    induction k with
    | nil =>
      intro vs pl its r
      cases pl
      cases r
      exact .nil
    | cons x xs ih =>
      intro vs pl its r
      obtain _ | ⟨p1, p2⟩ := pl
      obtain _ | ⟨r1, r2⟩ := r
      exact .cons (N.is I p1 r1) (ih _ p2 _ r2)
  inj := fun a b h => by
    injection h with h
    have : ∀ (a b : List κ), a.map N.n = b.map N.n → a = b := by
      intro a
      induction a with
      | nil => intro b h; cases b with
        | nil => rfl
        | cons y b => simp at h
      | cons x a ih =>
        intro b h
        cases b with
        | nil => simp at h
        | cons y b =>
          rw [List.map_cons, List.map_cons] at h
          injection h with h1 h2
          rw [N.inj _ _ h1, ih _ h2]
    exact this a b h
  m := N.m + 1
  dep := fun l => by
    have : ∀ l : List κ, NestedKey.depthAll (l.map N.n) ≤ N.m := by
      intro l
      induction l with
      | nil => simp [NestedKey.depthAll]
      | cons x l ih =>
        have := N.dep x
        rw [List.map_cons, NestedKey.depthAll]
        omega
    have := this l
    rw [NestedKey.depth]
    omega
def nk2 {κ ι : Type} (M : Nk κ) (N : Nk ι) : Nk (κ × ι) where
  c := r2 M.c N.c
  n := fun x => .tup [M.n x.1, N.n x.2]
  is := fun {X pins σ H s v u k} I r h => by
    obtain ⟨a, v1, v2, e, hs, p1, p2⟩ := r
    subst e
    obtain rfl : u = Value.ref a := h
    obtain ⟨its, r, t, _⟩ := I.tuple hs
    refine isTup_nested t ?_
    obtain _ | ⟨r1, r2⟩ := r
    obtain _ | ⟨r2, r3⟩ := r2
    cases r3
    exact .cons (M.is I p1 r1) (.cons (N.is I p2 r2) .nil)
  inj := fun a b h => by
    injection h with h
    injection h with h1 h2
    injection h2 with h2 _
    exact Prod.ext (M.inj _ _ h1) (N.inj _ _ h2)
  m := max M.m N.m + 1
  dep := fun x => by
    have h1 := M.dep x.1
    have h2 := N.dep x.2
    rw [NestedKey.depth, NestedKey.depthAll, NestedKey.depthAll, NestedKey.depthAll]
    omega

/-! ### the dict's own object -/
def rawO (a : Addr) (ob : Obj) : HO := .ext fun h => h.get? a = some ob
theorem raw_ok {P : Program} {w : World} {H : Hp} {h : Heap} {a : Addr} {ob : Obj} (e : h.get? a = some ob) : ObjOk P w H h a (rawO a ob) :=
  ⟨e, ⟨ob, e⟩, fun h1 h2 q k => k _ q⟩
theorem raw_at {X : Cx} {pins : List (Addr × Obj)} {σ : St} {H : Hp} {s : Shared} {a : Addr} {ob : Obj} (I : Inv X pins σ H s) (h : H a = some (rawO a ob)) : s.heap.get? a = some ob :=
  (show ObjOk X.prog X.w H s.heap a (rawO a ob) from I.hok a _ h).1
abbrev Ys := List (NestedKey × Addr × Value)
structure Nd (P : Program) (w : World) (a : Addr) (ob : Obj) (ys : Ys) : Prop where
  ns : (a == sysModules) = false
  ex : ob.ExactDict
  es : ∃ es ep, ob.data = .dict es ep ∧ es.toList = ys.map (entryOfKey (nestedKind P w))
  nd : (ys.map (·.1)).Nodup
  len : ys.length ≤ sizeLine
section
variable {κ α : Type}
def ndR (K : Frag) (F : Hp) (N : Nk κ) (c : Rp α) (y : NestedKey × Addr × Value) (q : κ × α) : Prop := y.1 = N.n q.1 ∧ N.c.r K F (.ref y.2.1) q.1 ∧ ∃ v, RelV v y.2.2 ∧ c.r K F v q.2
theorem ndR.mono {K : Frag} {F F' : Hp} {N : Nk κ} {c : Rp α} (s : Same F F') {y : NestedKey × Addr × Value} {q : κ × α} (h : ndR K F N c y q) : ndR K F' N c y q :=
  let ⟨a, b, v, r, d⟩ := h
  ⟨a, N.c.mono s b, v, r, c.mono s d⟩
def ndC (P : Program) (w : World) (x : Addr) (N : Nk κ) (c : Rp α) (kvs : List (κ × α)) : Cel :=
  ⟨fun K F o => ∃ ob ys, o = rawO x ob ∧ Nd P w x ob ys ∧ Paired (ndR K F N c) ys kvs, fun s ⟨ob, ys, e, n, p⟩ => ⟨ob, ys, e, n, Paired.mapP p fun _ _ h => h.mono s⟩⟩
/-- a frozen one -/
def rND (P : Program) (w : World) (N : Nk κ) (c : Rp α) : Rp (List (κ × α)) :=
  ⟨fun K F v kvs => ∃ x ob ys, v = .ref x ∧ F x = some (rawO x ob) ∧ Nd P w x ob ys ∧ Paired (ndR K F N c) ys kvs, fun s ⟨x, ob, ys, e, h, n, p⟩ => ⟨x, ob, ys, e, s _ _ h, n, Paired.mapP p fun _ _ h => h.mono s⟩⟩
/-- one that can be read -/
def vn (P : Program) (w : World) (N : Nk κ) (c : Rp α) (kvs : List (κ × α)) : VP :=
  ⟨fun K F H v => ∃ x ob ys, v = .ref x ∧ H x = some (rawO x ob) ∧ Nd P w x ob ys ∧ Paired (ndR K F N c) ys kvs, fun g ⟨x, ob, ys, e, h, n, p⟩ => ⟨x, ob, ys, e, g.hh _ _ h, n, Paired.mapP p fun _ _ h => h.mono g.ff⟩⟩
abbrev EN (X : Cx) (e : Expr) (Γ : List Sl) (N : Nk κ) (c : Rp α) (kvs : List (κ × α)) : Prop := Ez X e Γ (vn X.prog X.w N c kvs)
variable {N : Nk κ} {c : Rp α} {kvs : List (κ × α)}
theorem EN.of {X : Cx} {e : Expr} {Γ : List Sl} (h : EV X e Γ (rND X.prog X.w N c) kvs) : EN X e Γ N c kvs := Ez.to h fun s ⟨x, ob, ys, e, h, n, p⟩ => ⟨x, ob, ys, e, s _ _ h, n, p⟩
abbrev sN (P : Program) (w : World) (x : Addr) (N : Nk κ) (c : Rp α) (kvs : List (κ × α)) : Sl := .ox x (ndC P w x N c kvs)
/-- by its name -/
theorem en {X : Cx} {Γ : List Sl} (i : Nat) {n : Str} {p : Pos} {x : Addr} (h : Γ[i]? = some (sN X.prog X.w x N c kvs) := by rfl) (hN : X.N[i]? = some n := by rfl) (hv : Vis X.env.scope n := by first | exact Or.inl rfl | exact Or.inr (Or.inl rfl) | exact Or.inr (Or.inr rfl))
    (hd : (n == ("__debug__" : Str)) = false := by decide) (hcd : (n == ("__classdict__" : Str)) = false := by decide) : EN X (.Name n p) Γ N c kvs :=
  PE.imp (pv i hN hv hd hcd) fun σ H Q ⟨F0, H0, F, ok, q⟩ => by
    obtain ⟨l, hl, ca⟩ := ok.cell h rfl
    obtain ⟨ho, hH, ob, ys, eo, nd, pr⟩ := ca.o
    have el : l = x := ca.pin
    subst el
    subst eo
    exact ⟨_, hl, q _ F H (Gr.refl ok.sub) ⟨l, ob, ys, rfl, hH, nd, pr⟩⟩
theorem nd_look [DecidableEq κ] {K : Frag} {F : Hp} {k : κ} : ∀ {ys : Ys} {kvs : List (κ × α)}, Paired (ndR K F N c) ys kvs → (atKey ys (N.n k) = none ∧ dlook kvs k = none) ∨ ∃ p v x, atKey ys (N.n k) = some p ∧ dlook kvs k = some x ∧ RelV v p.2 ∧ c.r K F v x
  | _, _, .nil => .inl ⟨rfl, rfl⟩
  | _, _, .cons (a := y) (b := q) (l₁ := ys) (l₂ := kvs) r t => by
    obtain ⟨r1, r2, v, r3, r4⟩ := r
    by_cases e : q.1 = k
    · refine .inr ⟨y.2, v, q.2, ?_, dlook_pos e, r3, r4⟩
      unfold atKey
      rw [List.find?_cons, decide_eq_true (by rw [r1, e])]
      rfl
    · have hne : ¬ y.1 = N.n k := fun z => e (N.inj _ _ (r1.symm.trans z))
      have ha : atKey (y :: ys) (N.n k) = atKey ys (N.n k) := by
        unfold atKey
        rw [List.find?_cons, decide_eq_false hne]
      rw [ha, dlook_neg e]
      exact nd_look t
theorem nd_put [DecidableEq κ] {K : Frag} {F : Hp} {k : κ} {b : Addr} {v : V} {u : Value} {x : α} (hk : N.c.r K F (.ref b) k) (hv : RelV v u) (hx : c.r K F v x) {ys : Ys} {kvs : List (κ × α)} (h : Paired (ndR K F N c) ys kvs) :
    Paired (ndR K F N c) (storedH ys (N.n k) b u) (dput kvs k x) := by
  rcases nd_look (k := k) h with ⟨h1, h2⟩ | ⟨p, _, _, h1, h2, _, _⟩
  · rw [storedH_new h1, dput_fresh h2]
    exact Paired.append h (.cons ⟨rfl, hk, v, hv, hx⟩ .nil)
  · rw [storedH_old h1, dput_old (by rw [h2]; rfl)]
    clear h1 h2
    induction h with
    | nil => exact .nil
    | cons r t ih =>
      refine .cons ?_ ih
      obtain ⟨r1, r2, r3⟩ := r
      rename_i y q _ _
      show ndR K F N c (putAt (N.n k) u y) (if q.1 = k then (q.1, x) else q)
      by_cases e : q.1 = k
      · have e2 : y.1 = N.n k := by rw [r1, e]
        unfold putAt
        rw [if_pos e2, if_pos e]
        exact ⟨r1, r2, v, hv, hx⟩
      · have e2 : ¬ y.1 = N.n k := fun z => e (N.inj _ _ (r1.symm.trans z))
        unfold putAt
        rw [if_neg e2, if_neg e]
        exact ⟨r1, r2, r3⟩
/-- the model's own telling -/
theorem nd_of {X : Cx} {pins : List (Addr × Obj)} {σ : St} {F H : Hp} {s : Shared} {a : Addr} {ob : Obj} {ys : Ys} (I : Inv X pins σ H s) (sf : Same F H) (h : H a = some (rawO a ob)) (n : Nd X.prog X.w a ob ys) (p : Paired (ndR X.K F N c) ys kvs) (hm : N.m ≤ 8) :
    s.heap.DictOfH (nestedKind X.prog X.w) a ys := by
  obtain ⟨es, ep, hd, he⟩ := n.es
  refine ⟨ob, es, ep, raw_at I h, n.ex, hd, he, fun y hy => ?_, n.nd⟩
  obtain ⟨j, hj⟩ := List.mem_iff_getElem?.mp hy
  obtain ⟨q, _, r1, r2, _⟩ := Paired.getL p hj
  refine ⟨?_, ?_⟩
  · rw [r1]
    exact N.is I (N.c.mono sf r2) rfl
  · rw [r1]
    exact Nat.le_trans (N.dep q.1) hm
end
end Z

set_option Elab.async false
set_option linter.all false
set_option maxRecDepth 100000
set_option maxHeartbeats 4000000
/-! Zed: dicts with nested keys: reading, writing. -/
namespace Z
open PySem PySem.Spec PyProof.Rows L2
theorem nroom {P : Program} {w : World} {kk : Nat} {A : Around} (hr : Room kk A) : (nestedKind P w).room A.in1 := by
  have := hr.un
  show A.units + 1 + 8 < cLine
  omega
/-- N's keys are tuples -/
class NkR {κ : Type} (N : Nk κ) : Prop where
  rf : ∀ {K F v k}, N.c.r K F v k → ∃ a, v = .ref a
  le : N.m ≤ 8
instance nkr1 : NkR (nk2 nkI nkT) := ⟨fun ⟨a, _, _, e, _⟩ => ⟨a, e⟩, by decide⟩
instance nkr2 : NkR (nkS (nk2 nkI nkT)) := ⟨fun ⟨a, _, e, _⟩ => ⟨a, e⟩, by decide⟩
instance nkr3 : NkR (nk2 (nkS (nk2 nkI nkT)) nkI) := ⟨fun ⟨a, _, _, e, _⟩ => ⟨a, e⟩, by decide⟩
instance nkr4 : NkR (nkS nkI) := ⟨fun ⟨a, _, e, _⟩ => ⟨a, e⟩, by decide⟩
section
variable {κ α : Type} [DecidableEq κ] (N : Nk κ) (c : Rp α) {X : Cx}
/-- the dict at l in H2, the key at b -/
structure Nq (X : Cx) (H2 : Hp) (l : Addr) (ob : Obj) (ys : Ys) (kvs : List (κ × α)) (b : Addr) (k : κ) (F : Hp) : Prop where
  sf : Same F H2
  at_ : H2 l = some (rawO l ob)
  nd : Nd X.prog X.w l ob ys
  pr : Paired (ndR X.K F N c) ys kvs
  ky : N.c.r X.K F (.ref b) k
theorem Nq.of {N : Nk κ} {c : Rp α} [NkR N] {pins : List (Addr × Obj)} {σ : St} {s : Shared} {H2 : Hp} {l : Addr} {ob : Obj} {ys : Ys} {kvs : List (κ × α)} {b : Addr} {k : κ} {F : Hp} (q : Nq N c X H2 l ob ys kvs b k F) (I : Inv X pins σ H2 s) :
    s.heap.DictOfH (nestedKind X.prog X.w) l ys ∧ (nestedKind X.prog X.w).is s.heap (N.n k) b :=
  ⟨nd_of I q.sf q.at_ q.nd q.pr NkR.le, N.is I (N.c.mono q.sf q.ky) rfl, Nat.le_trans (N.dep k) NkR.le⟩
def tNGet (X : Cx) (td ty : TE) : TE := fun σ H Q => td σ H fun x H1 => ty σ H1 fun y H2 => ∃ l ob ys kvs b k F v p, x = .ref l ∧ y = .ref b ∧ Nq N c X H2 l ob ys kvs b k F ∧ atKey ys (N.n k) = some p ∧ RelV v p.2 ∧ Q v H2
def tNIn (X : Cx) (td ty : TE) : TE := fun σ H Q => ty σ H fun y H1 => td σ H1 fun x H2 => ∃ l ob ys kvs b k F, x = .ref l ∧ y = .ref b ∧ Nq N c X H2 l ob ys kvs b k F ∧ Q (.bl (atKey ys (N.n k)).isSome) H2
def tNNotIn (X : Cx) (td ty : TE) : TE := fun σ H Q => ty σ H fun y H1 => td σ H1 fun x H2 => ∃ l ob ys kvs b k F, x = .ref l ∧ y = .ref b ∧ Nq N c X H2 l ob ys kvs b k F ∧ Q (.bl (!(atKey ys (N.n k)).isSome)) H2
def tNGetOr (X : Cx) (td ty tx : TE) : TE := fun σ H Q => td σ H fun x H1 => ∃ l ob, x = .ref l ∧ H1 l = some (rawO l ob) ∧ ob.ExactDict ∧ ty σ H1 fun y H2 => tx σ H2 fun z H3 => ∃ ys kvs b k F v, ∃ u : Value → Value, y = .ref b ∧ Nq N c X H3 l ob ys kvs b k F ∧ (∀ w, RelV z w → ((atKey ys (N.n k)).map (·.2)).getD w = u w ∧ RelV v (u w)) ∧ Q v H3
def sNPut (X : Cx) (td ty tv : TE) : TS := fun D σ H => tv σ H fun v H1 => td σ H1 fun x H2 => ty σ H2 fun y H3 => ∃ l ob ys kvs b k F, x = .ref l ∧ y = .ref b ∧ Nq N c X H3 l ob ys kvs b k F ∧ ys.length < sizeLine ∧
  ∀ u ob', RelV v u → Nd X.prog X.w l ob' (storedH ys (N.n k) b u) → D.nx σ (upd H3 l (rawO l ob'))
variable {N c} [NkR N] {kk : Nat} {o i e f value : Expr} {pos pos' apos cpos : Pos} {td ty tx tv : TE}
theorem pe_nget (hr : Room kk X.A) (ho : PE X o td) (hi : PE X i ty) (hs : NoSl i) : PE X (.Subscript o i pos) (tNGet N c X td ty) := by
  refine ⟨fun pins s σ H Q I h => ?_⟩
  refine subD_of PySem.F.slot_dict_getitem.lookup hs (thn (ho.run pins s σ H _ I h) fun u s1 ⟨x, H1, I1, rx, q1⟩ => thn (hi.run pins s1 σ H1 _ I1 q1) fun iv s2 ⟨y, H2, I2, ry, l, ob, ys, kvs, b, k, F, v, p, ex, ey, nq, hp, rv, q2⟩ => ?_)
  subst ex
  subst ey
  obtain rfl : u = Value.ref l := rx
  obtain rfl : iv = Value.ref b := ry
  obtain ⟨dd, kis⟩ := nq.of I2
  exact ⟨dd.typeIs, wpAny_getItem_heap (nroom hr) kis dd hp ⟨v, H2, I2.tok _, rv, q2⟩⟩
theorem pc_nin (hr : Room kk X.A) (hi : PE X i ty) (ho : PE X o td) : PC X .In i o (tNIn N c X td ty) := by
  refine ⟨fun pins s σ H Q I h => ?_⟩
  refine thn (hi.run pins s σ H _ I h) fun iv s1 ⟨y, H1, I1, ry, q1⟩ => thn (ho.run pins s1 σ H1 _ I1 q1) fun u s2 ⟨x, H2, I2, rx, l, ob, ys, kvs, b, k, F, ex, ey, nq, q2⟩ => ?_
  subst ex
  subst ey
  obtain rfl : u = Value.ref l := rx
  obtain rfl : iv = Value.ref b := ry
  obtain ⟨dd, kis⟩ := nq.of I2
  exact wpAny_in_heap (nroom hr) kis nq.nd.ns dd ⟨.bl (atKey ys (N.n k)).isSome, H2, I2.tok _, rfl, q2⟩
theorem pc_nnotin (hr : Room kk X.A) (hi : PE X i ty) (ho : PE X o td) : PC X .NotIn i o (tNNotIn N c X td ty) := by
  refine ⟨fun pins s σ H Q I h => ?_⟩
  refine thn (hi.run pins s σ H _ I h) fun iv s1 ⟨y, H1, I1, ry, q1⟩ => thn (ho.run pins s1 σ H1 _ I1 q1) fun u s2 ⟨x, H2, I2, rx, l, ob, ys, kvs, b, k, F, ex, ey, nq, q2⟩ => ?_
  subst ex
  subst ey
  obtain rfl : u = Value.ref l := rx
  obtain rfl : iv = Value.ref b := ry
  obtain ⟨dd, kis⟩ := nq.of I2
  exact wpAny_notIn_heap (nroom hr) kis nq.nd.ns dd ⟨.bl (!(atKey ys (N.n k)).isSome), H2, I2.tok _, rfl, q2⟩
theorem pe_ngetor (hr : Room kk X.A) (ho : PE X o td) (he : PE X e ty) (hf : PE X f tx) (m : M2 X o "get" apos e f cpos) : PE X (.Call (.Attribute o "get" apos) [e, f] [] cpos) (tNGetOr N c X td ty tx) := by
  refine ⟨fun pins s σ H Q I h => ?_⟩
  refine wpAny_Call_method m.base m.few m.line PySem.F.plainAttrs_dict PySem.F.slot_dict_get PySem.F.type_dict_get (thn (ho.run pins s σ H _ I h) fun u s1 ⟨x, H1, I1, rx, l, ob, ex, hl, hx, q1⟩ => ?_)
  subst ex
  obtain rfl : u = Value.ref l := rx
  have hob := raw_at I1 hl
  refine ⟨⟨ob, hob, hx.1⟩, fun b q => by cases q; exact ⟨ob, hob, hx.2.1⟩, ?_⟩
  rw [m.trees]
  refine Calls.callWith_builtin rfl (Calls.evalArgs_plain (Calls.spliced_cons (thn (he.run pins s1 σ H1 _ I1 q1) fun iv s2 ⟨y, H2, I2, ry, q2⟩ =>
    Calls.spliced_cons (thn (hf.run pins s2 σ H2 _ I2 q2) fun fv s3 ⟨z, H3, I3, rz, ys, kvs, b, k, F, v, uu, ey, nq, hu, q3⟩ => Calls.spliced_nil ?_))))
  subst ey
  obtain rfl : iv = Value.ref b := ry
  obtain ⟨dd, kis⟩ := nq.of I3
  obtain ⟨h1, h2⟩ := hu fv rz
  refine getOr_keyed (nroom hr) kis nq.nd.ns ⟨ys, dd, rfl⟩ ?_
  rw [valueAt_pairsH, h1]
  exact ⟨v, H3, I3.tok _, h2, q3⟩
theorem ps_nput (hr : Room kk X.A) (ho : PE X o td) (hi : PE X i ty) (hv : PE X value tv) (hs : swapsWith value (some (.Subscript o i pos')) pos.line X.env = pure false) :
    PS X (.Assign [.Subscript o i pos'] value pos) (sNPut N c X td ty tv) := by
  refine ⟨fun pins s σ H D I h => ?_⟩
  refine wpAny_Assign_Subscript (thn (hv.run pins s σ H _ I h) fun r s1 ⟨v, H1, I1, rv, q1⟩ => thn (ho.run pins s1 σ H1 _ I1 q1) fun u s2 ⟨x, H2, I2, rx, q2⟩ => thn (hi.run pins s2 σ H2 _ I2 q2) fun iv s3 ⟨y, H3, I3, ry, l, ob, ys, kvs, b, k, F, ex, ey, nq, hz, q3⟩ => ?_) hs
  subst ex
  subst ey
  obtain rfl : u = Value.ref l := rx
  obtain rfl : iv = Value.ref b := ry
  obtain ⟨dd, kis⟩ := nq.of I3
  refine wpAny_setItem_heap (hsz := by omega) (nroom hr) kis dd fun h' dd' hs' => ?_
  obtain ⟨ob', es, ep, ho', hx', hd', he', _, hn'⟩ := dd'
  have hlen : (storedH ys (N.n k) b r).length ≤ sizeLine := by
    unfold storedH
    split
    · rw [List.length_map]
      omega
    · simp
      omega
  refine ⟨σ, upd H3 l (rawO l ob'), d_write I3 (by rw [nq.at_]; exact True.intro) hs' ⟨_, ho'⟩ (raw_ok ho'), q3 r ob' rv ⟨nq.nd.ns, hx', ⟨es, ep, hd', he'⟩, hn', hlen⟩⟩
end
section
variable {ρ : Type} {κ α : Type} [DecidableEq κ] {N : Nk κ} [NkR N] {c : Rp α} {kvs : List (κ × α)} {X : Cx} {Γ : List Sl} {O : Out ρ} {d a b e : Expr} {es : List Expr} {rest : List Stmt} {pos p p2 p3 : Pos} {k : κ} {x : α} {kk : Nat}
/-- d[a], there -/
theorem ev_getN (hr : Room kk X.A) (hd : EN X d Γ N c kvs) (ha : EV X a Γ N.c k) (hx : dlook kvs k = some x) (hs : NoSl a := by intro _ _; rfl) : EV X (.Subscript d a pos) Γ c x :=
  PE.imp (pe_nget (N := N) (c := c) hr hd ha hs) fun σ H Q ⟨F0, H0, F, ok, q⟩ => ⟨F0, H0, F, ok, fun v1 F1 H1 g1 r1 => ⟨F0, H0, F1, ok.grow g1, fun v2 F2 H2 g2 r2 => by
    obtain ⟨l, ob, ys, e, hH, nd, pr⟩ := (vn X.prog X.w N c kvs).mono g2 r1
    obtain ⟨bb, eb⟩ := NkR.rf r2
    subst eb
    rcases nd_look (k := k) pr with ⟨_, h2⟩ | ⟨p, v, x', h1, h2, r3, r4⟩
    · rw [hx] at h2
      cases h2
    · rw [hx] at h2
      cases h2
      exact ⟨l, ob, ys, kvs, bb, k, F2, v, p, e, rfl, ⟨g2.sub, hH, nd, pr, r2⟩, h1, r3, q v F2 H2 (g1.trans g2) r4⟩⟩⟩
theorem look_some {K : Frag} {F : Hp} {ys : Ys} (pr : Paired (ndR K F N c) ys kvs) : (atKey ys (N.n k)).isSome = (dlook kvs k).isSome := by
  rcases nd_look (k := k) pr with ⟨h1, h2⟩ | ⟨p, v, x', h1, h2, _, _⟩
  · rw [h1, h2]; rfl
  · rw [h1, h2]; rfl
theorem eb_inN (hr : Room kk X.A) (ha : EV X a Γ N.c k) (hd : EN X d Γ N c kvs) (hm : behindInMarks .In d = false := by with_unfolding_all rfl) : EB X (.Compare a [.In] [d] pos) Γ (dlook kvs k).isSome :=
  PT.imp (pt_cmp (pc_nin (N := N) (c := c) hr ha hd) hm) fun σ H Q ⟨F0, H0, F, ok, q⟩ => ⟨F0, H0, F, ok, fun v1 F1 H1 g1 r1 => ⟨F0, H0, F1, ok.grow g1, fun v2 F2 H2 g2 ⟨l, ob, ys, e, hH, nd, pr⟩ => by
    obtain ⟨bb, eb⟩ := NkR.rf r1
    subst eb
    refine ⟨l, ob, ys, kvs, bb, k, F2, e, rfl, ⟨g2.sub, hH, nd, pr, N.c.mono g2.ff r1⟩, (dlook kvs k).isSome, ?_, q F2 H2 (g1.trans g2)⟩
    rw [look_some pr]⟩⟩
theorem eb_ninN (hr : Room kk X.A) (ha : EV X a Γ N.c k) (hd : EN X d Γ N c kvs) (hm : behindInMarks .NotIn d = false := by with_unfolding_all rfl) : EB X (.Compare a [.NotIn] [d] pos) Γ (!(dlook kvs k).isSome) :=
  PT.imp (pt_cmp (pc_nnotin (N := N) (c := c) hr ha hd) hm) fun σ H Q ⟨F0, H0, F, ok, q⟩ => ⟨F0, H0, F, ok, fun v1 F1 H1 g1 r1 => ⟨F0, H0, F1, ok.grow g1, fun v2 F2 H2 g2 ⟨l, ob, ys, e, hH, nd, pr⟩ => by
    obtain ⟨bb, eb⟩ := NkR.rf r1
    subst eb
    refine ⟨l, ob, ys, kvs, bb, k, F2, e, rfl, ⟨g2.sub, hH, nd, pr, N.c.mono g2.ff r1⟩, !(dlook kvs k).isSome, ?_, q F2 H2 (g1.trans g2)⟩
    rw [look_some pr]⟩⟩
/-- d.get(a, b) -/
theorem ev_getOrN (hr : Room kk X.A) (hd : EN X d Γ N c kvs) (ha : EV X a Γ N.c k) (hb : EV X b Γ c x) (m : M2 X d "get" p2 a b p3) : EV X (.Call (.Attribute d "get" p2) [a, b] [] p3) Γ c ((dlook kvs k).getD x) :=
  PE.imp (pe_ngetor (N := N) (c := c) hr hd ha hb m) fun σ H Q ⟨F0, H0, F, ok, q⟩ => ⟨F0, H0, F, ok, fun v1 F1 H1 g1 r1 => by
    obtain ⟨l, ob, ys, e, hH, nd, pr⟩ := id r1
    refine ⟨l, ob, e, hH, nd.ex, F0, H0, F1, ok.grow g1, fun v2 F2 H2 g2 r2 => ⟨F0, H0, F2, (ok.grow g1).grow g2, fun v3 F3 H3 g3 r3 => ?_⟩⟩
    have g23 := g2.trans g3
    obtain ⟨bb, eb⟩ := NkR.rf r2
    subst eb
    have pr3 : Paired (ndR X.K F3 N c) ys kvs := Paired.mapP pr fun _ _ h => h.mono g23.ff
    have nq : Nq N c X H3 l ob ys kvs bb k F3 := ⟨g3.sub, g23.hh _ _ hH, nd, pr3, N.c.mono g3.ff r2⟩
    rcases nd_look (k := k) pr3 with ⟨h1, h2⟩ | ⟨p, v, x', h1, h2, r4, r5⟩
    · exact ⟨ys, kvs, bb, k, F3, v3, fun w => w, rfl, nq, fun w hw => by rw [h1]; exact ⟨rfl, hw⟩, q v3 F3 H3 (g1.trans g23) (by rw [h2]; exact r3)⟩
    · exact ⟨ys, kvs, bb, k, F3, v, fun _ => p.2, rfl, nq, fun w hw => by rw [h1]; exact ⟨rfl, r4⟩, q v F3 H3 (g1.trans g23) (by rw [h2]; exact r5)⟩⟩
/-- d[a] = e, d the dict in the slot i -/
theorem ss_putN (i : Nat) {n : Str} {l : Addr} (hr : Room kk X.A) (he : EV X e Γ c x) (ha : EV X a Γ N.c k) (hi : Γ[i]? = some (sN X.prog X.w l N c kvs)) (hz : kvs.length < 16777216)
    (h : SS X rest (Γ.set i (sN X.prog X.w l N c (dput kvs k x))) O) (hN : X.N[i]? = some n := by rfl)
    (hv : Vis X.env.scope n := by first | exact Or.inl rfl | exact Or.inr (Or.inl rfl) | exact Or.inr (Or.inr rfl))
    (hd : (n == ("__debug__" : Str)) = false := by decide) (hcd : (n == ("__classdict__" : Str)) = false := by decide)
    (hs : swapsWith e (some (.Subscript (.Name n p) a p2)) pos.line X.env = pure false := by rfl) : SS X (.Assign [.Subscript (.Name n p) a p2] e pos :: rest) Γ O :=
  ss_step (ps_nput (N := N) (c := c) hr (pv i hN hv hd hcd) ha he hs) fun F0 H0 F D σ H ok q => by
    refine ⟨F0, H0, F, ok, fun v F1 H1 g1 r => ?_⟩
    have ok1 := ok.grow g1
    obtain ⟨l', hl, ca⟩ := ok1.cell hi rfl
    have el : l' = l := ca.pin
    subst el
    obtain ⟨ho, hH, ob, ys, eo, nd, pr⟩ := ca.o
    subst eo
    refine ⟨_, hl, F0, H0, F1, ok1, fun w F2 H2 g2 r2 => ?_⟩
    obtain ⟨bb, eb⟩ := NkR.rf r2
    subst eb
    have ok2 := ok1.grow g2
    have pr2 : Paired (ndR X.K F2 N c) ys kvs := Paired.mapP pr fun _ _ h => h.mono g2.ff
    refine ⟨l', ob, ys, kvs, bb, k, F2, rfl, rfl, ⟨g2.sub, g2.hh _ _ hH, nd, pr2, r2⟩, by rw [Paired.length pr2, sizeLine_eq]; exact hz, fun u ob' ru nd' => ⟨_, O, h, F0, H0, F2, ?_, q.step (g1.ff.trans g2.ff)⟩⟩
    exact ok2.write hi rfl hl ⟨ob', _, rfl, nd', nd_put r2 ru (c.mono g2.ff r) pr2⟩ rfl
/-- d = {} -/
theorem ss_dictN (i : Nat) {n : Str} {p4 : Pos} (hN : X.N.Nodup) (h : ∀ l, SS X rest (Γ.set i (sN X.prog X.w l N c [])) O) (hi : X.N[i]? = some n := by rfl) (hx : Loc X.env.scope n := by first | exact Or.inl rfl | exact Or.inr rfl)
    (hs : swapsWith (.Dict [] [] p4) (some (.Name n p)) pos.line X.env = pure false := by rfl) (hf : X.fn n = true ∨ X.env.scope.names.lookup n = some .local := by first | exact .inl rfl | exact .inr rfl) : SS X (.Assign [.Name n p] (.Dict [] [] p4) pos :: rest) Γ O := by
  -- a plain empty dict, told anew by its own object
  have conv : ∀ (l : Addr) {t : TS}, PSs X rest t → PSs X rest (fun D σ H => H l = some (.dK []) ∧ ∀ ob, Nd X.prog X.w l ob [] → t D σ (upd H l (rawO l ob))) := fun l t ht => ⟨fun pins s σ H D I ⟨hd, q⟩ => by
    obtain ⟨hz, hns, vs, kv, ob, es, ep, ho, hx, hdat, _, hp, _⟩ := (show ObjOk X.prog X.w H s.heap l (.dK []) from I.hok l _ hd)
    cases kv
    have he : es.toList = [] := List.eq_nil_of_length_eq_zero (by rw [hp.length]; rfl)
    have nd : Nd X.prog X.w l ob [] := ⟨hns, hx, ⟨es, ep, hdat, by rw [he]; rfl⟩, List.nodup_nil, Nat.zero_le _⟩
    have I2 : Inv X pins σ (upd H l (rawO l ob)) { s with heap := s.heap, toks := s.toks } := I.write (x := l) (e := l) (by rw [hd]; exact True.intro) (.inl rfl) (fun b q _ z => z) ⟨_, ho⟩ (raw_ok ho)
    exact ht.run pins s σ _ D I2 (q ob nd)⟩
  refine PSs.imp (pss_cons (ps_set hN hi hx (eo_dict (Γ := Γ) (c := rInt)) hs hf) (PSs.imp (?_ : PSs X rest fun D σ H => ∃ l, H l = some (.dK []) ∧ ∀ ob, Nd X.prog X.w l ob [] → tS X.K (Γ.set i (sN X.prog X.w l N c [])) O D σ (upd H l (rawO l ob))) fun D σ H q => q)) fun D σ H ⟨F0, H0, F, ok, q⟩ => ⟨F0, H0, F, ok, fun l ho F1 H1 g1 hF hH hH1 hc => ?_⟩
  · exact ⟨fun pins s σ H D I ⟨l, q⟩ => (conv l (h l)).run pins s σ H D I q⟩
  · obtain ⟨ps, eo, pd⟩ := hc
    subst eo
    cases pd
    refine ⟨l, hH1, fun ob nd => ?_⟩
    have ok2 := ok.setC (i := i) g1 hH hF hH1 (s := .od rInt []) ⟨[], rfl, .nil⟩ trivial
    by_cases hil : i < Γ.length
    · have ok3 := ok2.write (s' := sN X.prog X.w l N c []) (by rw [List.getElem?_set_self hil]) rfl (by rw [List.getElem?_set_self (by rw [ok.len]; exact hil)]) (ho := rawO l ob) ⟨ob, [], rfl, nd, .nil⟩ rfl
      rw [List.set_set] at ok3
      exact ⟨F0, H0, F1, ok3, q.step g1.ff⟩
    · have e1 : Γ.set i (Sl.od rInt ([] : List (Key × Int))) = Γ := List.set_eq_of_length_le (by omega)
      have e2 : Γ.set i (sN X.prog X.w l N c []) = Γ := List.set_eq_of_length_le (by omega)
      rw [e1] at ok2
      rw [e2]
      refine ⟨F0, H0, F1, ok2.writeX hF (none_of_same ok.gr.hh hH) fun j s hj cj ej => ?_, q.step g1.ff⟩
      obtain ⟨l2, h2, c2⟩ := ok2.cell hj cj
      have hjl : j < Γ.length := (List.getElem?_eq_some_iff.mp hj).1
      rw [List.getElem?_set_ne (by omega)] at ej
      obtain ⟨l3, h3, c3⟩ := ok.cell hj cj
      rw [h3] at ej
      cases ej
      obtain ⟨ho, hh, _⟩ := c3.o
      rw [hH] at hh
      cases hh
/-- the dict is frozen -/
theorem ss_fzN (i : Nat) {l : Addr} (hi : Γ[i]? = some (sN X.prog X.w l N c kvs)) (h : SS X rest (Γ.set i (.v (rND X.prog X.w N c) kvs)) O) : SS X rest Γ O := PSs.imp h fun D σ H ⟨F0, H0, F, ok, q⟩ => by
  obtain ⟨l', hl, ca⟩ := ok.cell hi rfl
  obtain ⟨ho, hH, ob, ys, eo, nd, pr⟩ := ca.o
  have el : l' = l := ca.pin
  subst el
  subst eo
  exact ⟨F0, H0, _, ok.freeze hi rfl hl hH ⟨l', ob, ys, rfl, upd_same, nd, Paired.mapP pr fun _ _ h => h.mono (same_upd ca.f)⟩, q.step (same_upd ca.f)⟩
end
end Z

set_option Elab.async false
set_option linter.all false
set_option maxRecDepth 100000
set_option maxHeartbeats 4000000
/-! Zed: dicts with nested keys: walked, listed, measured. -/
namespace Z
open PySem PySem.Spec PyProof.Rows L2
theorem nd_raw {X : Cx} {pins : List (Addr × Obj)} {σ : St} {H : Hp} {s : Shared} {a : Addr} {ob : Obj} {ys : Ys} (I : Inv X pins σ H s) (h : H a = some (rawO a ob)) (n : Nd X.prog X.w a ob ys) :
    ∃ es ep, s.heap.DictRaw a es ep ∧ ob.data = .dict es ep ∧ es.size = ys.length ∧ ∀ i (hi : i < es.size), ∃ y, ys[i]? = some y ∧ es[i].key = .ref y.2.1 ∧ es[i].val = y.2.2 := by
  obtain ⟨es, ep, hd, he⟩ := n.es
  have hs := size_of_entries he
  refine ⟨es, ep, ⟨ob, raw_at I h, n.ex, hd⟩, hd, hs, fun i hi => ?_⟩
  have hx : i < ys.length := hs ▸ hi
  have e := entry_at he i
  rw [Array.getElem?_eq_getElem hi, List.getElem?_eq_getElem hx, Option.map_some] at e
  have e' := Option.some.inj e
  exact ⟨ys[i], List.getElem?_eq_getElem hx, by rw [e']; rfl, by rw [e']; rfl⟩
section
variable {prog : Program} {w : World} {d r : Addr} {es : Array DictEntry} {ep : Nat}
theorem kdl_rawK (lo : (d == sysModules) = false) : PySem.W.KdlSrc prog w "dict" d d es.size (fun i v => ∃ hi : i < es.size, v = es[i].key) (fun h => h.DictRaw d es ep) where
  type := fun _ hm => hm.typeIs
  there := fun _ hm => let ⟨_, ho, _⟩ := hm; ⟨Heap.lt_size ho, Heap.lt_size ho⟩
  keep := fun _ _ hm hk => hm.at fun o e => hk d (.inl rfl) o e
  notList := by decide
  notTuple := by decide
  hint := fun _ _ _ _ hm hq => PySem.W.kdl_hint_dict hm.typeIs hq
  iter := fun _ _ hh hm => ⟨_, _, (fun _ _ hq => wpAny_pyIter_dict_raw lo hm hq), Walks.rawKeys hh _ d (let ⟨_, ho, _⟩ := hm; Nat.ne_of_lt (Heap.lt_size ho)) es ep, ⟨⟨_, Heap.get?_push_size _ rfl, rfl, rfl⟩, hm.at fun o e => Heap.get?_push_of_some _ e⟩⟩
theorem kdl_rawV : PySem.W.KdlSrc prog w "dict_values" r d es.size (fun i v => ∃ hi : i < es.size, v = es[i].val) (fun h => h.IsValuesView r d ∧ h.DictRaw d es ep) where
  type := fun _ hm => hm.1.typeIs
  there := fun _ hm => ⟨let ⟨_, ho, _⟩ := hm.1; Heap.lt_size ho, let ⟨_, ho, _⟩ := hm.2; Heap.lt_size ho⟩
  keep := fun _ _ hm hk => ⟨let ⟨o, ho, x⟩ := hm.1; ⟨o, hk r (.inl rfl) o ho, x⟩, hm.2.at fun o e => hk d (.inr rfl) o e⟩
  notList := by decide
  notTuple := by decide
  hint := fun _ _ _ _ hm hq => PySem.W.kdl_hint_values hm.1.typeIs hq
  iter := fun _ _ hh hm => ⟨_, _, (fun _ _ hq => wpAny_pyIter_values_raw hm.1 hm.2 hq), Walks.rawValues hh _ d (let ⟨_, ho, _⟩ := hm.2; Nat.ne_of_lt (Heap.lt_size ho)) es ep, ⟨⟨_, Heap.get?_push_size _ rfl, rfl, rfl⟩, hm.2.at fun o e => Heap.get?_push_of_some _ e⟩⟩
end
section
variable {X : Cx}
/-- list(d) -/
theorem call_listN (hc : X.calm = true) : CallR X (.type "list") (fun xs H Q => ∃ p ob ys, xs = [.ref p] ∧ H p = some (rawO p ob) ∧ Nd X.prog X.w p ob ys ∧ ∀ q, H q = none → Q (.ref q) (upd H q (.lst (ys.map fun y => .ref y.2.1)))) := by
  intro pins s σ H xs us Q I r h
  obtain ⟨p, ob, ys, e, hk, nd, q⟩ := h
  subst e
  obtain ⟨u, eu, rx⟩ := vals1 r
  subst eu
  obtain rfl : u = Value.ref p := rx
  obtain ⟨es, ep, hr, _, hz, hy⟩ := nd_raw I hk nd
  refine PySem.W.kdl_call (kdl_rawK (es := es) (ep := ep) nd.ns) (I.ok.hd hc) hr (by rw [hz]; exact nd.len) fun h' tk acc' c' hkeep hS hacc => ?_
  refine ⟨.ref s.heap.objs.size, upd H s.heap.objs.size (.lst (ys.map fun y => .ref y.2.1)), I.laid hkeep (Nat.le_refl _) (show ObjOk X.prog X.w _ _ _ (.lst (ys.map fun y => .ref y.2.1)) from ⟨?_, acc'.toList, c', ?_, ?_⟩), rfl, q _ (I.hok.fresh (Nat.le_refl _))⟩
  · rw [List.length_map]; exact nd.len
  · have el : acc'.toList.length = acc'.size := by simp
    refine vals_of_at (by rw [List.length_map, el, hacc.1, hz]) fun j x w h1 h2 => ?_
    obtain ⟨hi, hw⟩ := hacc.2 j w (by rw [← Array.getElem?_toList]; exact h2)
    obtain ⟨y, hy1, hy2, _⟩ := hy j hi
    rw [List.getElem?_map, hy1] at h1
    cases h1
    rw [hw, hy2]
    rfl
  · rw [Array.toArray_toList]; exact hS
/-- list(view of the values) -/
theorem call_listV (hc : X.calm = true) : CallR X (.type "list") (fun xs H Q => ∃ v p ob vo ys vs, xs = [.ref v] ∧ H v = some (rawO v vo) ∧ vo.cls = .type "dict_values" ∧ vo.data = .fields #[.ref p] ∧ H p = some (rawO p ob) ∧ Nd X.prog X.w p ob ys ∧ Vals vs (ys.map fun y => y.2.2) ∧ ∀ q, H q = none → Q (.ref q) (upd H q (.lst vs))) := by
  intro pins s σ H xs us Q I r h
  obtain ⟨v, p, ob, vo, ys, vs, e, hv, vc, vd, hk, nd, hvs, q⟩ := h
  subst e
  obtain ⟨u, eu, rx⟩ := vals1 r
  subst eu
  obtain rfl : u = Value.ref v := rx
  obtain ⟨es, ep, hr, _, hz, hy⟩ := nd_raw I hk nd
  have hvl : vs.length = ys.length := by rw [Paired.length hvs, List.length_map]
  refine PySem.W.kdl_call (kdl_rawV (r := v) (es := es) (ep := ep)) (I.ok.hd hc) ⟨⟨vo, raw_at I hv, vc, vd⟩, hr⟩ (by rw [hz]; exact nd.len) fun h' tk acc' c' hkeep hS hacc => ?_
  refine ⟨.ref s.heap.objs.size, upd H s.heap.objs.size (.lst vs), I.laid hkeep (Nat.le_refl _) (show ObjOk X.prog X.w _ _ _ (.lst vs) from ⟨by rw [hvl]; exact nd.len, acc'.toList, c', ?_, ?_⟩), rfl, q _ (I.hok.fresh (Nat.le_refl _))⟩
  · have el : acc'.toList.length = acc'.size := by simp
    refine vals_of_at (by rw [el, hacc.1, hz, hvl]) fun j x w h1 h2 => ?_
    obtain ⟨hi, hw⟩ := hacc.2 j w (by rw [← Array.getElem?_toList]; exact h2)
    obtain ⟨y, hy1, _, hy2⟩ := hy j hi
    obtain ⟨z, hz1, hz2⟩ := Paired.getL hvs h1
    rw [List.getElem?_map, hy1] at hz1
    cases hz1
    rw [hw, hy2]
    exact hz2
  · rw [Array.toArray_toList]; exact hS
/-- d.values() -/
def tNVals (X : Cx) (td : TE) : TE := fun σ H Q => td σ H fun x H1 => ∃ p ob ys, x = .ref p ∧ H1 p = some (rawO p ob) ∧ Nd X.prog X.w p ob ys ∧ ∀ v vo, H1 v = none → vo.cls = .type "dict_values" → vo.data = .fields #[.ref p] → Q (.ref v) (upd H1 v (rawO v vo))
theorem pe_nvals {o : Expr} {td : TE} {apos mpos : Pos} (hd : PE X o td) (hbase : attributeBase o "values" X.env (eval o X.env) = eval o X.env := by rfl) (hline : (apos.endLine == mpos.line) = true := by rfl) : PE X (.Call (.Attribute o "values" apos) [] [] mpos) (tNVals X td) := by
  refine ⟨fun pins s σ H Q I h => ?_⟩
  refine wpAny_Call_method0_late hbase hline (thn (hd.run pins s σ H _ I h) fun v s1 ⟨x, H1, I1, r1, p, ob, ys, ex, hp, nd, q⟩ => ?_)
  subst ex
  obtain rfl : v = Value.ref p := r1
  have hob := raw_at I1 hp
  obtain ⟨es, ep, hr, _, _, _⟩ := nd_raw I1 hp nd
  refine ⟨"dict", "dict.values", PySem.F.plainAttrs_dict, PySem.F.slot_dict_values, PySem.F.type_dict_values, ⟨ob, hob, nd.ex.1⟩, fun b e => by cases e; exact ⟨ob, hob, nd.ex.2.1⟩, Calls.callWith_builtin rfl (PySem.evalArgs_none ?_)⟩
  refine call_meetsIn PySem.F.slot_dict_values ⟨ob, hob, nd.ex.1⟩ PySem.F.entry_dict_values (PySem.F.args_dict_values_1 _) (meets_dict_values_raw p nd.ns) ⟨⟨es, ep, hr⟩, ?_⟩
  refine ⟨.ref s1.heap.objs.size, upd H1 s1.heap.objs.size (rawO s1.heap.objs.size { cls := .type "dict_values", data := .fields #[.ref p] }), I1.laid (t' := s1.toks) (fun b o e => Heap.get?_push_of_some _ e) (Nat.le_refl _) (raw_ok (Heap.get?_push_size _ rfl)), rfl, q _ _ (I1.hok.fresh (Nat.le_refl _)) rfl rfl⟩
/-- the keys' own tuples, one after another -/
def ItN (d : Addr) (ob : Obj) (ks : List V) : It :=
  ⟨fun i H => H d = some (rawO d ob) ∧ i < ks.length, fun i H x H' => H' = H ∧ ks[i]? = some x, fun i H => H d = some (rawO d ob) ∧ ks.length ≤ i⟩
theorem turn_N {P : Program} {w : World} {K : Frag} {tg : Expr} {d : Addr} {ob : Obj} {es : Array DictEntry} {ep : Nat} {ks : List V} (it : Addr) (hod : ob.data = .dict es ep) (hsz : es.size = ks.length)
    (hk : ∀ i (hi : i < es.size), ∃ x, ks[i]? = some x ∧ RelV x es[i].key) : Turn P w K tg (ItN d ob ks) [it] it (fun i h => h.IsKeyIter it d i ks.length ep) where
  mem := by simp
  obj := fun i h st b hb => by
    have e : b = it := by simpa using hb
    subst e
    obtain ⟨oi, e, c, dd⟩ := st
    exact ⟨oi, e, fun v z => by rw [dd] at z; cases z⟩
  keep := fun i h h' st k => st.at fun oi e => k it (by simp) oi e
  item := by
    intro X hP hw hK hc i pins s σ H E I hf st hg
    subst hP hw hK
    obtain ⟨hd, hi⟩ := hg
    obtain ⟨f0, f1, f2, f3, f4, f5⟩ := hf it (by simp)
    have hgd := raw_at I hd
    obtain ⟨x, hx, rx⟩ := hk i (by rw [hsz]; exact hi)
    refine next_key_item st hgd hod hsz (Array.getElem?_eq_getElem (by rw [hsz]; exact hi)) fun h' st' sb => ?_
    have I1 : Inv X pins σ H { s with heap := h' } := I.turned (t' := s.toks) (fun b ob hb e => (sb.2 b hb).trans e) f0 f1 f3 f4 f5
    obtain ⟨oi, e, c, dd⟩ := id st'
    exact ⟨_, rfl, go_of (s := { s with heap := h' }) e c dd (by decide) ⟨x, H, I1, rx, ⟨rfl, hx⟩, st', fun b hb => (hf b hb).1⟩⟩
  done := by
    intro X hP hw hK hc i pins s σ H E I hf st hg
    subst hP hw hK
    obtain ⟨hd, hi⟩ := hg
    obtain ⟨f0, f1, f2, f3, f4, f5⟩ := hf it (by simp)
    exact next_key_end (I.ok.hd hc) st (raw_at I hd) hod hsz hi fun h' eb => ⟨rfl, I.turned (t' := s.toks) (fun b ob hb e => eb b ob hb e) f0 f1 f3 f4 f5⟩
  self := fun A i s Q E st h => by
    refine wpAny_pyIter_slot st.typeIs PySem.F.slot_dict_keyiterator_iter (wpAny_call_entry PySem.F.slot_dict_keyiterator_iter st.typeIs PySem.F.entry_dict_keyiterator_iter ?_ (PySem.F.args_dict_keyiterator_iter_1 _))
    show wpAny _ _ (ret (.ref it)) _ _ s
    exact wpAny_pure ⟨_, rfl, "dict_keyiterator", _, st.typeIs, PySem.F.slot_dict_keyiterator_next.lookup, h⟩
def iN (X : Cx) (td : TE) : TI := fun σ H R => td σ H fun x H1 => ∃ d ob ys, x = .ref d ∧ H1 d = some (rawO d ob) ∧ Nd X.prog X.w d ob ys ∧ R (ItN d ob (ys.map fun y => .ref y.2.1)) H1
theorem pi_N {tg e : Expr} {td : TE} (he : PE X e td) : PI X tg e (iN X td) := by
  refine ⟨fun pins s σ H R I h => ?_⟩
  refine thn (he.run pins s σ H _ I h) fun u s1 ⟨x, H1, I1, rx, d, ob, ys, ex, hd, nd, q⟩ => ?_
  subst ex
  obtain rfl : u = Value.ref d := rx
  obtain ⟨es, ep, hr, hdt, hz, hy⟩ := nd_raw I1 hd nd
  have hz2 : es.size = (ys.map fun y => V.ref y.2.1).length := by rw [List.length_map, hz]
  refine iter_keys nd.ns (raw_at I1 hd) nd.ex hdt (pi_one (tk := s1.toks) I1 _ (turn_N _ hdt hz2 fun i hi => ?_) ⟨_, Heap.get?_push_size _ rfl, rfl, ?_⟩ q)
  · obtain ⟨y, h1, h2, _⟩ := hy i hi
    exact ⟨.ref y.2.1, by rw [List.getElem?_map, h1]; rfl, h2⟩
  · rw [hz2] <;> rfl
theorem wpAny_len_body_raw {prog : Program} {w : World} {A : Around} {E : Value → Shared → Prop} {s : Shared} {d : Addr} {es : Array DictEntry} {ep : Nat} {Q : Value → Shared → Prop} (hd : (d == sysModules) = false) (hm : s.heap.DictRaw d es ep) (hfit : (es.size : Int) < 2 ^ 63)
    (h : Q (.int es.size (s.toks + 1)) { s with toks := s.toks + 1 + 1 }) : wpAny (model prog w) A (Builtin.«len» ⟨[.ref d], []⟩) (fun fin s' => ∃ r, fin = .done (.ret r) ∧ Q r s') E s := by
  unfold Builtin.«len»
  refine wpAny_bind (m := oneArg "len" _) (wpAny_pure ?_)
  refine wpAny_bind (m := callSpecial? (.ref d) (Str.ofString "__len__")) (wpAny_callSpecial?_slot (name := Str.ofString "__len__") hm.typeIs PySem.F.slot_dict_len (call_len_raw hd hm ?_))
  show wpAny _ _ _ _ _ { s with toks := s.toks + 1 }
  refine wpAny_bind (wpAny_holding (wpAny_pure ?_))
  refine wpAny_bind (wpAny_letGo ?_)
  show wpAny _ _ (if ((es.size : Nat) : Int) < 0 then _ else _) _ _ _
  rw [if_neg (by omega)]
  show wpAny _ _ (if ((es.size : Nat) : Int) ≥ 2 ^ 63 then _ else _) _ _ _
  rw [if_neg (by omega)]
  exact wpAny_bind (wpAny_mkInt (wpAny_pure ⟨_, rfl, h⟩))
theorem call_lenN : CallR X (.builtin "len") (fun xs H Q => ∃ p ob ys, xs = [.ref p] ∧ H p = some (rawO p ob) ∧ Nd X.prog X.w p ob ys ∧ Q (.int ys.length) H) := by
  intro pins s σ H xs us Q I r h
  obtain ⟨p, ob, ys, e, hk, nd, q⟩ := h
  subst e
  obtain ⟨u, eu, rx⟩ := vals1 r
  subst eu
  obtain rfl : u = Value.ref p := rx
  obtain ⟨es, ep, hr, _, hz, hy⟩ := nd_raw I hk nd
  have hl := nd.len
  rw [sizeLine_eq] at hl
  refine Calls.call_function_entry kind_len plain_len entry_len (args_len1 _) (wpAny_len_body_raw nd.ns hr (by rw [hz]; omega) ⟨.int ys.length, H, I.tok _, ⟨_, by rw [hz]⟩, q⟩)
end
section
variable {κ α : Type} [DecidableEq κ] {N : Nk κ} {c : Rp α} {kvs : List (κ × α)} {X : Cx} {Γ : List Sl} {d tg : Expr} {pos p p2 p3 : Pos}
theorem pl_keys {K : Frag} {F : Hp} : ∀ {ys : Ys} {kvs : List (κ × α)}, Paired (ndR K F N c) ys kvs → PL N.c K F (ys.map fun y => .ref y.2.1) (kvs.map (·.1))
  | _, _, .nil => .nil
  | _, _, .cons r t => .cons r.2.1 (pl_keys t)
theorem pl_vals {K : Frag} {F : Hp} : ∀ {ys : Ys} {kvs : List (κ × α)}, Paired (ndR K F N c) ys kvs → ∃ vs, Vals vs (ys.map fun y => y.2.2) ∧ PL c K F vs (kvs.map (·.2))
  | _, _, .nil => ⟨[], .nil, .nil⟩
  | _, _, .cons r t => by
    obtain ⟨vs, h1, h2⟩ := pl_vals t
    obtain ⟨_, _, v, r1, r2⟩ := r
    exact ⟨v :: vs, .cons r1 h1, .cons r2 h2⟩
/-- list(d): the keys -/
theorem eo_listN (hc : X.calm = true) (hm : X.mg "list" = none) (hd : EN X d Γ N c kvs) (hg : Gl X "list" := by rfl) (hs : starEach [d] X.env = [(false, eval d X.env)] := by rfl) : EO X (.Call (.Name "list" p2) [d] [] pos) Γ (.ol N.c (kvs.map (·.1))) :=
  PE.imp (pe_callTy (call_listN hc) hg hm (by decide +kernel) (ea1 hd hs) (by decide) (by decide) hs rfl) fun σ H Q ⟨F0, H0, F, ok, q⟩ => ⟨F0, H0, F, ok, fun vs F1 H1 g1 pa => by
    obtain _ | ⟨⟨x, ob, ys, e, hH, nd, pr⟩, pn⟩ := pa
    cases pn
    subst e
    exact ⟨x, ob, ys, rfl, hH, nd, fun t ht => q t _ F1 _ (g1.trans (Gr.hold g1.sub ht)) (none_of_same g1.sub ht) (none_of_same g1.hh ht) upd_same ⟨_, rfl, pl_keys pr⟩⟩⟩
/-- list(d.values()) -/
theorem eo_valsN {apos mpos : Pos} (hc : X.calm = true) (hm : X.mg "list" = none) (hd : EN X d Γ N c kvs) (hg : Gl X "list" := by rfl) (hs : starEach [.Call (.Attribute d "values" apos) [] [] mpos] X.env = [(false, eval (.Call (.Attribute d "values" apos) [] [] mpos) X.env)] := by rfl)
    (hbase : attributeBase d "values" X.env (eval d X.env) = eval d X.env := by rfl) (hline : (apos.endLine == mpos.line) = true := by rfl) : EO X (.Call (.Name "list" p2) [.Call (.Attribute d "values" apos) [] [] mpos] [] pos) Γ (.ol c (kvs.map (·.2))) :=
  PE.imp (pe_callTy (call_listV hc) hg hm (by decide +kernel) (pa_cons (pe_nvals hd hbase hline) pa_nil hs) (by decide) (by decide) hs rfl) fun σ H Q ⟨F0, H0, F, ok, q⟩ => ⟨F0, H0, F, ok, fun v F1 H1 g1 ⟨x, ob, ys, e, hH, nd, pr⟩ => ⟨x, ob, ys, e, hH, nd, fun u uo hu uc ud => by
    obtain ⟨vs, h1, h2⟩ := pl_vals pr
    have g2 : Gr F1 H1 F1 (upd H1 u (rawO u uo)) := Gr.hold g1.sub hu
    have hxu : x ≠ u := fun e => by
      subst e
      rw [hH] at hu
      cases hu
    refine ⟨u, x, ob, uo, ys, vs, rfl, upd_same, uc, ud, by rw [upd_ne hxu]; exact hH, nd, h1, fun t ht => ?_⟩
    have g3 := g1.trans g2
    exact q t _ F1 _ (g3.trans (Gr.hold g3.sub ht)) (none_of_same g3.sub ht) (none_of_same g3.hh ht) upd_same ⟨vs, rfl, h2⟩⟩⟩
/-- for k in d, d frozen -/
theorem it_N (h : EV X d Γ (rND X.prog X.w N c) kvs) : IT X tg d Γ N.c (kvs.map (·.1)) :=
  PI.imp (pi_N h) fun σ H R ⟨F0, H0, F, ok, q⟩ => ⟨F0, H0, F, ok, fun v F1 H1 g1 ⟨x, ob, ys, e, hF, nd, pr⟩ => ⟨x, ob, ys, e, g1.sub _ _ hF, nd, q _ F1 H1 g1 (by
    have pl := pl_keys pr
    rw [← Paired.length pl]
    exact ⟨fun i H2 hi s => ⟨s _ _ hF, hi⟩, fun H2 s => ⟨s _ _ hF, Nat.le_refl _⟩, fun i H2 v H3 hi s h => YZ.at pl h⟩)⟩⟩
theorem ev_lenN (hm : X.mg "len" = none) (hd : EN X d Γ N c kvs) (hg : Gl X "len" := by rfl) (hs : starEach [d] X.env = [(false, eval d X.env)] := by rfl) : EV X (.Call (.Name "len" p2) [d] [] pos) Γ rInt kvs.length :=
  ez_b1 call_lenN hm (by decide +kernel) hd (fun F H v Q s ⟨x, ob, ys, e, hH, nd, pr⟩ z => ⟨x, ob, ys, by rw [e], hH, nd, z _ F H (Gr.refl s) (by rw [Paired.length pr]; rfl)⟩) hg (by decide) (by decide) hs
end
end Z

set_option Elab.async false
set_option linter.all false
set_option maxRecDepth 100000
set_option maxHeartbeats 4000000
/-! Zed: order and sorting of nested data. -/
namespace Z
open PySem PySem.Spec PyProof.Rows L2
open PySem.W (alike alikeAll AllAlike Sortable EachIs dataLe dataLt dataLe_eq TotalLe sortLe_total sorted_data)
/-- any two can be compared -/
structure Al {α : Type} {c : Rp α} (D : Dt c) : Prop where
  al : ∀ x y, alike (D.d x) (D.d y) = true
  nn : ∀ x, D.d x ≠ .none
theorem alInt : Al dInt := ⟨fun x y => by simp [dInt, alike], fun x h => by cases h⟩
theorem alTx : Al dTx := ⟨fun x y => by simp [dTx, alike], fun x h => by cases h⟩
theorem al2 {α β : Type} {c : Rp α} {k : Rp β} {D : Dt c} {E : Dt k} (h1 : Al D) (h2 : Al E) : Al (d2 D E) := ⟨fun x y => by
  simp only [d2, alike, alikeAll, h1.al, h2.al, Bool.and_true], fun x h => by cases h⟩
theorem alT {α : Type} {c : Rp α} {D : Dt c} (h : Al D) : Al (dT D) := ⟨fun x y => by
  have : ∀ xs ys : List α, alikeAll (xs.map D.d) (ys.map D.d) = true := by
    intro xs
    induction xs with
    | nil => intro ys; simp [alikeAll]
    | cons x xs ih =>
      intro ys
      cases ys with
      | nil => simp [alikeAll]
      | cons y ys =>
        rw [List.map_cons, List.map_cons, alikeAll, h.al, ih ys]
        rfl
  show alike (.tuple _) (.tuple _) = true
  rw [alike]
  exact this x y, fun x h => by cases h⟩
def leD {α : Type} {c : Rp α} (D : Dt c) : α → α → Bool := dataLe false D.d
theorem leD_eq {α : Type} {c : Rp α} (D : Dt c) (x y : α) : leD D x y = !dataLt (D.d y) (D.d x) := by
  unfold leD
  rw [dataLe_eq]
  rfl
def srtD {α : Type} {c : Rp α} (D : Dt c) (xs : List α) : List α := xs.mergeSort (leD D)
theorem leD_total {α : Type} {c : Rp α} (D : Dt c) : TotalLe (leD D) := by
  unfold leD dataLe
  exact sortLe_total _ _ _
theorem srtD_perm {α : Type} {c : Rp α} (D : Dt c) (xs : List α) : (srtD D xs).Perm xs := List.mergeSort_perm _ _
theorem srtD_pw {α : Type} {c : Rp α} (D : Dt c) (xs : List α) : (srtD D xs).Pairwise (fun x y => leD D x y = true) :=
  List.pairwise_mergeSort (fun a b c => (leD_total D).trans a b c) (fun a b => by
    have := (leD_total D).total a b
    simpa using this) xs
theorem each_of {R : V → Value → Prop} : ∀ {vs : List V} {us : List Value}, Paired R vs us → ∀ {α : Type} {S : V → α → Prop} {xs : List α}, Paired S vs xs → EachIs (fun u x => ∃ v, R v u ∧ S v x) us xs
  | _, _, .nil, _, _, _, .nil => .nil
  | _, _, .cons r t, _, _, _, .cons s u => .cons ⟨_, r, s⟩ (each_of t u)
theorem each_back {α : Type} {R : V → Value → Prop} {S : V → α → Prop} : ∀ {us : List Value} {xs : List α}, EachIs (fun u x => ∃ v, R v u ∧ S v x) us xs → ∃ vs, Paired R vs us ∧ Paired S vs xs
  | _, _, .nil => ⟨[], .nil, .nil⟩
  | _, _, .cons r t => by
    obtain ⟨vs, h1, h2⟩ := each_back t
    obtain ⟨v, r1, r2⟩ := r
    exact ⟨v :: vs, .cons r1 h1, .cons r2 h2⟩
theorem each_mono {α β : Type} {R S : α → β → Prop} (f : ∀ a b, R a b → S a b) : ∀ {xs : List α} {ys : List β}, EachIs R xs ys → EachIs S xs ys
  | _, _, .nil => .nil
  | _, _, .cons r t => .cons (f _ _ r) (each_mono f t)
section
variable {α : Type} {c : Rp α} {X : Cx} {Γ : List Sl} {a b : Expr} {pos p p2 : Pos} {kk : Nat}
/-- sorted(xs), any data -/
theorem call_sortedDt (D : Dt c) (A : Al D) (hr : Room kk X.A) (hn : D.n ≤ 60) : CallR X (.builtin "sorted") (fun us H Q => ∃ l vs xs F, us = [.ref l] ∧ SqL X.K H l vs ∧ Same F H ∧ PL c X.K F vs xs ∧ Sortable (xs.map D.d) ∧ ∀ q vs', H q = none → PL c X.K F vs' (srtD D xs) → Q (.ref q) (upd H q (.lst vs'))) := by
  intro pins s σ H vs us Q I r h
  obtain ⟨l, vs, xs, F, rfl, hs, sf, pl, hso, q⟩ := h
  obtain ⟨its, rv, hl, hz⟩ := I.list hs
  rw [Vals.ref1 r]
  have e0 := each_of (R := RelV) rv pl
  have hlen : xs.length ≤ sizeLine := by rw [← Paired.length pl]; exact hz
  have hu : ∀ b, b ∈ xs → X.A.units + 2 + (D.d b).depth < cLine := fun b _ => by
    have := hr.un
    have := D.dep b
    omega
  refine sorted_data (enc := D.d) (R := fun u x => ∃ v, RelV v u ∧ c.r X.K F v x) hl.isList e0 (each_mono (fun u x ⟨v, r1, r2⟩ => Dp.reads I _ v u (D.dp (c.mono sf r2)) r1) e0) (AllAlike.of A.al) hso hlen hu fun out ho eo => ?_
  obtain ⟨vs', h1, h2⟩ := each_back eo
  obtain ⟨ep, he'⟩ := PyProof.Rows.sortedAll_at s.heap its (List.toArray out)
  have hl2 : vs'.length ≤ sizeLine := by rw [Paired.length h1, ho]; exact hlen
  exact ⟨.ref _, upd H (s.heap.objs.size + 1) (.lst vs'), I.laid (t' := s.toks) (fun _ _ => PyProof.Rows.sortedAll_old) (Nat.le_succ _) ⟨hl2, out, ep, h1, he'⟩, rfl, q _ vs' (I.hok.fresh (Nat.le_succ _)) h2⟩
theorem eo_sortD {xs : List α} (D : Dt c) (A : Al D) (hr : Room kk X.A) (hm : X.mg "sorted" = none) (ha : EL X a Γ c xs) (hso : Sortable (xs.map D.d)) (hn : D.n ≤ 60 := by decide) (hg : Gl X "sorted" := by rfl) (hs : starEach [a] X.env = [(false, eval a X.env)] := by rfl) :
    EO X (.Call (.Name "sorted" p) [a] [] pos) Γ (.ol c (srtD D xs)) :=
  eo_b1 (call_sortedDt D A hr hn) hm (by decide +kernel) ha (fun F H v Q sf ⟨l, vs, ev, hsq, pl⟩ z => ⟨l, vs, xs, F, by rw [ev], hsq, sf, pl, hso, fun q vs' hq pl' => z q _ F _ (Gr.hold sf hq) (none_of_same sf hq) hq upd_same ⟨vs', rfl, pl'⟩⟩) hg (by decide) (by decide) hs
/-- x > y, x < y -/
theorem op_gtD (D : Dt c) (A : Al D) (hr : Room kk X.A) (hn : D.n ≤ 60) : OpR X (compareOp .Gt) (fun x y H Q => ∃ F p q, Same F H ∧ c.r X.K F x p ∧ c.r X.K F y q ∧ Q (.bl (dataLt (D.d q) (D.d p))) H) := by
  intro pins s σ H x y u v Q I rx ry h
  obtain ⟨F, p, q, sf, h1, h2, z⟩ := h
  obtain ⟨as, ra⟩ := Dp.reads I _ x u (D.dp (c.mono sf h1)) rx
  obtain ⟨bs, rb⟩ := Dp.reads I _ y v (D.dp (c.mono sf h2)) ry
  refine PySem.W.gt_data ra rb (A.al p q) (A.nn p) ?_ ⟨.bl _, H, I, rfl, z⟩
  have := hr.un
  have := D.dep p
  omega
theorem eb_gtD {x y : α} (D : Dt c) (A : Al D) (hr : Room kk X.A) (ha : EV X a Γ c x) (hb : EV X b Γ c y) (hn : D.n ≤ 60 := by decide) : EB X (.Compare a [.Gt] [b] pos) Γ (!leD D x y) :=
  eb_cmp (op_gtD D A hr hn) ha hb (nomark _) fun F H v w Q s h1 h2 z => ⟨F, x, y, s, h1, h2, by rw [leD_eq, Bool.not_not] at z; exact z⟩
end
end Z

set_option Elab.async false
set_option linter.all false
set_option maxRecDepth 100000
set_option maxHeartbeats 4000000
/-! Zed: comprehensions with two for; membership, count of data; isinstance. -/
namespace Z
open PySem PySem.Spec PyProof.Rows L2
section
variable {X : Cx} {Γ : List Sl} {e tg iter tg1 iter1 : Expr} {pos p : Pos} {α β γ : Type} {c : Rp α} {c1 : Rp β} {d : Rp γ} {xs : List α} {ys : α → List β}
theorem flat_take_succ {F : α → List γ} {i : Nat} {x : α} (h : xs[i]? = some x) : (xs.take (i + 1)).flatMap F = (xs.take i).flatMap F ++ F x := by
  have hi : i < xs.length := (List.getElem?_eq_some_iff.mp h).1
  have e : xs[i] = x := (List.getElem?_eq_some_iff.mp h).2
  rw [List.take_succ_eq_append_getElem hi, List.flatMap_append, e]
  simp
theorem flat_take_le {F : α → List γ} (i : Nat) : ((xs.take i).flatMap F).length ≤ (xs.flatMap F).length := by
  have : xs.flatMap F = (xs.take i).flatMap F ++ (xs.drop i).flatMap F := by rw [← List.flatMap_append, List.take_append_drop]
  rw [this, List.length_append]
  omega
def wi2 (K : Frag) (ws : List Nat) (g : List Sl → α → List Sl) (Γ : List Sl) (xs : List α) (c1 : Rp β) (ys : α → List β) : TI := fun σ H R => ∃ x, x ∈ xs ∧ tIT K (g (wipeS Γ ws) x) c1 (ys x) σ H R
def te2 (K : Frag) (d : Rp γ) (ws ws1 : List Nat) (g : List Sl → α → List Sl) (g1 : List Sl → β → List Sl) (Γ : List Sl) (xs : List α) (ys : α → List β) (f : α → β → γ) : TE := fun σ H Q => ∃ x y, x ∈ xs ∧ y ∈ ys x ∧ tE K (g1 (wipeS (g (wipeS Γ ws) x) ws1) y) (vv d (f x y)) σ H Q
def ttT : TT := fun σ H Q => Q true H
/-- what g sets are values, and only in js -/
def GC {α : Type} (js : List Nat) (g : List Sl → α → List Sl) : Prop := ∀ Γ x j s, (g Γ x)[j]? = some s → s.cel = true → j ∉ js ∧ Γ[j]? = some s
theorem gc_name {α : Type} {c : Rp α} (i : Nat) : GC [i] (fun Γ (y : α) => Γ.set i (.v c y)) := fun Γ x j s h hc => by
  rcases set_get h with ⟨rfl, rfl, _⟩ | ⟨hne, h⟩
  · cases hc
  · exact ⟨fun m => hne (List.mem_singleton.mp m).symm, h⟩
theorem tlc2_of {K : Frag} {js js1 ws ws1 : List Nat} {g : List Sl → α → List Sl} {g1 : List Sl → β → List Sl} {f : α → β → γ} (hgc : GC js g) (hj : ∀ i ∈ js, i ∈ ws) (hj1 : ∀ i ∈ js1, i ∈ ws1) (hz : (xs.flatMap fun x => (ys x).map (f x)).length ≤ 16777216) {σ : St} {H : Hp} {Q : VK}
    (h : tEO K Γ (.ol d (xs.flatMap fun x => (ys x).map (f x))) σ H Q) : tLc2 (tIT K Γ c xs) (tGZ K c js g) ttT (wi2 K ws g Γ xs c1 ys) (tGZ K c1 js1 g1) ttT (te2 K d ws ws1 g g1 Γ xs ys f) ws ws1 σ H Q := by
  obtain ⟨F0, H0, F, okk, q⟩ := h
  refine ⟨F0, H0, F, okk, fun J F1 H1 gr wk D hD => ?_⟩
  have ok1 := okk.grow gr
  refine ⟨fun i m H' => m = xs.length - i ∧ i ≤ xs.length ∧ ∃ F' vs, Gr F1 H1 F' H' ∧ F' D = none ∧ H' D = some (.lst vs) ∧ PL d K F' vs ((xs.take i).flatMap fun x => (ys x).map (f x)),
    ⟨xs.length, by simp, Nat.zero_le _, F1, [], Gr.hold gr.sub hD, none_of_same gr.sub hD, upd_same, by simpa using .nil⟩, ?_⟩
  rintro i m H' ⟨rfl, hi, F', vs, gg, fD, hD', pl⟩
  have sf : Same F1 H' := gg.ff.trans gg.sub
  by_cases hlt : i < xs.length
  · refine .inr ⟨wk.goes i H' hlt sf, fun H'' => ∃ F'' vs', Gr F1 H1 F'' H'' ∧ F'' D = none ∧ H'' D = some (.lst vs') ∧ PL d K F'' vs' ((xs.take (i + 1)).flatMap fun x => (ys x).map (f x)), fun H'' p' => ⟨xs.length - (i + 1), by omega, rfl, hlt, p'⟩, fun v H2 yv => ?_⟩
    obtain ⟨F2, x, g2, hx, rx⟩ := wk.yields i H' v H2 hlt sf yv F' gg.ff gg.sub
    have okw := (ok1.grow (gg.trans g2)).wipe ws
    have hm : x ∈ xs := List.mem_of_getElem? hx
    refine ⟨F0, H0, F2, _, x, okw, rx, fun σ2 ok2 e2 => ⟨wipe_eq e2.1 e2.2 hj, ?_⟩⟩
    unfold ttT
    dsimp only
    rw [if_pos rfl]
    refine ⟨x, hm, F0, H0, F2, ok2, fun J1 F3 H3 g3 wk1 => ?_⟩
    have noc : NoCel σ2 (g (wipeS Γ ws) x) D := fun j s hs hc e => by
      obtain ⟨hjs, hs'⟩ := hgc _ _ _ _ hs hc
      rw [e2.2 j hjs] at e
      obtain ⟨l, hl, ca⟩ := (ok1.wipe ws).cell hs' hc
      rw [e] at hl
      cases hl
      obtain ⟨ho, hh, _⟩ := ca.o
      rw [hD] at hh
      cases hh
    have h0D : H0 D = none := none_of_same ok1.gr.hh hD
    have g23 := g2.trans g3
    have step := flat_take_succ (F := fun x => (ys x).map (f x)) hx
    have hlen := flat_take_le (xs := xs) (F := fun x => (ys x).map (f x)) (i + 1)
    rw [step, List.length_append, List.length_map] at hlen
    refine ⟨fun j k H' => k = (ys x).length - j ∧ j ≤ (ys x).length ∧ ∃ F' vs, Ok K F0 H0 F' H' σ2 (g (wipeS Γ ws) x) ∧ Same F3 F' ∧ Gr F1 H1 F' H' ∧ F' D = none ∧ H' D = some (.lst vs) ∧ PL d K F' vs (((xs.take i).flatMap fun x => (ys x).map (f x)) ++ ((ys x).take j).map (f x)),
      ⟨(ys x).length, by simp, Nat.zero_le _, F3, vs, ok2.grow g3, Same.refl _, gg.trans g23, g23.none fD hD', g23.hh _ _ hD', by simpa using PL.mono g23.ff pl⟩, ?_⟩
    rintro j k H4 ⟨rfl, hjl, F4, vs4, ok4, s34, gg4, fD4, hD4, pl4⟩
    have sf4 : Same F3 H4 := s34.trans gg4.sub
    by_cases hlt1 : j < (ys x).length
    · refine .inr ⟨wk1.goes j H4 hlt1 sf4, fun H'' => ∃ F' vs, Ok K F0 H0 F' H'' σ2 (g (wipeS Γ ws) x) ∧ Same F3 F' ∧ Gr F1 H1 F' H'' ∧ F' D = none ∧ H'' D = some (.lst vs) ∧ PL d K F' vs (((xs.take i).flatMap fun x => (ys x).map (f x)) ++ ((ys x).take (j + 1)).map (f x)), fun H'' p' => ⟨(ys x).length - (j + 1), by omega, rfl, hlt1, p'⟩, fun v5 H5 yv5 => ?_⟩
      obtain ⟨F5, y, g5, hy, ry⟩ := wk1.yields j H4 v5 H5 hlt1 sf4 yv5 F4 s34 gg4.sub
      have okw1 := (ok4.grow g5).wipe ws1
      have hym : y ∈ ys x := List.mem_of_getElem? hy
      refine ⟨F0, H0, F5, _, y, okw1, ry, fun σ3 ok3 e3 => ⟨wipe_eq e3.1 e3.2 hj1, ?_⟩⟩
      dsimp only
      rw [if_pos rfl]
      refine ⟨x, y, hm, hym, F0, H0, F5, ok3, fun u F6 H6 g6 r6 => ?_⟩
      have g56 := g5.trans g6
      have hD6 : H6 D = some (.lst vs4) := g56.hh _ _ hD4
      have fD6 : F6 D = none := g56.none fD4 hD4
      refine ⟨vs4, hD6, ?_, F6, vs4 ++ [u], (ok4.grow g56).writeX fD6 h0D noc, s34.trans g56.ff, ?_, fD6, upd_same, ?_⟩
      · have l1 := Paired.length pl4
        rw [List.length_append, List.length_map, List.length_take] at l1
        rw [sizeLine_eq]
        omega
      · have ga := gg4.trans g56
        exact ⟨same_upd2 ga.hh hD, ga.ff, same_upd2 ga.sub fD6, ga.new⟩
      · have e7 : ((ys x).take (j + 1)).map (f x) = ((ys x).take j).map (f x) ++ [f x y] := by
          rw [List.take_add_one, hy, List.map_append]
          rfl
        rw [e7, ← List.append_assoc]
        exact Paired.append (PL.mono g56.ff pl4) (.cons r6 .nil)
    · have e : j = (ys x).length := by omega
      subst e
      rw [List.take_length] at pl4
      exact .inl ⟨wk1.stops H4 sf4, F4, vs4, gg4, fD4, hD4, by rw [step]; exact pl4⟩
  · have e : i = xs.length := by omega
    subst e
    rw [List.take_length] at pl
    exact .inl ⟨wk.stops H' sf, q D _ F' H' (gr.trans gg) fD (none_of_same gr.hh hD) hD' ⟨vs, rfl, pl⟩⟩
theorem eo_lc2 {elt : Expr} {scope : Scope} {own : List (Str × Nat)} {ws1 js js1 : List Nat} {g : List Sl → α → List Sl} {g1 : List Sl → β → List Sl} (ys : α → List β) (f : α → β → γ)
    (hN : X.N.Nodup) (hi : IT X tg iter Γ c xs) (ok : BlkOk X.N X.env.scope scope own) (hv : ∀ i ∈ ws1, i ∈ own.map (·.2))
    (hg : ∀ s H C cl fp, GZ (Blk X scope s H C cl fp) tg c js g) (hgc : GC js g) (hj : ∀ i ∈ js, i ∈ own.map (·.2))
    (hi1 : ∀ s H C cl fp x, x ∈ xs → IT (Blk X scope s H C cl fp) tg1 iter1 (g (wipeS Γ (own.map (·.2))) x) c1 (ys x))
    (hg1 : ∀ s H C cl fp, GZ (Blk X scope s H C cl fp) tg1 c1 js1 g1) (hj1 : ∀ i ∈ js1, i ∈ ws1)
    (he : ∀ s H C cl fp x y, x ∈ xs → y ∈ ys x → EV (Blk X scope s H C cl fp) elt (g1 (wipeS (g (wipeS Γ (own.map (·.2))) x) ws1) y) d (f x y))
    (hz : (xs.flatMap fun x => (ys x).map (f x)).length ≤ 16777216) (hc : X.calm = true := by rfl) (hs : ∀ x, foldedSetIterable iter X.env x = pure x := by intro _; rfl) (hs1 : ∀ env x, foldedSetIterable iter1 env x = pure x := by intro _ _; rfl) :
    EO X (.ListComp elt [⟨tg, iter, [], 0⟩, ⟨tg1, iter1, [], 0⟩] scope pos) Γ (.ol d (xs.flatMap fun x => (ys x).map (f x))) := by
  have hI : ∀ (s : Shared) (H : Hp) (C : Addr) (cl : List (Str × Addr)) (fp : List Addr), PI (Blk X scope s H C cl fp) tg1 iter1 (wi2 X.K (own.map (·.2)) g Γ xs c1 ys) :=
    fun s H C cl fp => ⟨fun pins s' σ H' R I ⟨x, hx, q⟩ => (hi1 s H C cl fp x hx).run pins s' σ H' R I q⟩
  have hE : ∀ (s : Shared) (H : Hp) (C : Addr) (cl : List (Str × Addr)) (fp : List Addr), PE (Blk X scope s H C cl fp) elt (te2 X.K d (own.map (·.2)) ws1 g g1 Γ xs ys f) :=
    fun s H C cl fp => ⟨fun pins s' σ H' Q I ⟨x, y, hx, hy, q⟩ => (he s H C cl fp x y hx hy).run pins s' σ H' Q I q⟩
  have hT : ∀ (s : Shared) (H : Hp) (C : Addr) (cl : List (Str × Addr)) (fp : List Addr), PTs (Blk X scope s H C cl fp) [] ttT := fun _ _ _ _ _ => pts_nil
  exact PE.imp (pe_lc2 hc hN hi ok hv hg hT hI hg1 hT hE hs hs1) fun σ H Q h => tlc2_of hgc hj hj1 hz h
end

/-! ### membership and count of data -/
theorem plInt : ∀ x, (dInt.d x).plain = true := fun _ => rfl
theorem plTx : ∀ x, (dTx.d x).plain = true := fun _ => rfl
theorem plAll {α : Type} {c : Rp α} {D : Dt c} (h : ∀ x, (D.d x).plain = true) : ∀ xs : List α, PyData.plainAll (xs.map D.d) = true
  | [] => rfl
  | x :: xs => by
    rw [List.map_cons, PyData.plainAll, h x, plAll h xs]
    rfl
theorem plT {α : Type} {c : Rp α} {D : Dt c} (h : ∀ x, (D.d x).plain = true) : ∀ x, ((dT D).d x).plain = true := fun xs => by
  show PyData.plain (.tuple _) = true
  rw [PyData.plain]
  exact plAll h xs
theorem pl2 {α β : Type} {c : Rp α} {k : Rp β} {D : Dt c} {E : Dt k} (h1 : ∀ x, (D.d x).plain = true) (h2 : ∀ x, (E.d x).plain = true) : ∀ x, ((d2 D E).d x).plain = true := fun x => by
  show PyData.plain (.tuple [_, _]) = true
  rw [PyData.plain, PyData.plainAll, PyData.plainAll, PyData.plainAll, h1, h2]
  rfl
section
variable {X : Cx} {Γ : List Sl} {a b : Expr} {pos p p2 : Pos} {α : Type} [DecidableEq α] {c : Rp α} {x : α} {xs : List α} {kk : Nat}
theorem op_inDT (D : Dt c) (hp : ∀ x, (D.d x).plain = true) (hr : Room kk X.A) (hn : D.n ≤ 60) : OpR X (compareOp .In) (fun u v H Q => ∃ F x xs, Same F H ∧ c.r X.K F u x ∧ (rT c).r X.K F v xs ∧ Q (.bl (decide (x ∈ xs))) H) := by
  intro pins s σ H u v w z Q I ru rv h
  obtain ⟨F, x, xs, sf, h1, h2, q⟩ := h
  obtain ⟨as, r1⟩ := Dp.reads I _ u w (D.dp (c.mono sf h1)) ru
  obtain ⟨bs, r2⟩ := Dp.reads I _ v z ((dT D).dp ((rT c).mono sf h2)) rv
  refine PySem.SeqAt.in_tuple_data r2 r1 (plAll hp xs) (hp x) ?_ ⟨.bl _, H, I, rfl, by rw [any_dec]; exact q⟩
  have := hr.un
  have := D.dep x
  omega
theorem op_ninDT (D : Dt c) (hp : ∀ x, (D.d x).plain = true) (hr : Room kk X.A) (hn : D.n ≤ 60) : OpR X (compareOp .NotIn) (fun u v H Q => ∃ F x xs, Same F H ∧ c.r X.K F u x ∧ (rT c).r X.K F v xs ∧ Q (.bl (!decide (x ∈ xs))) H) := by
  intro pins s σ H u v w z Q I ru rv h
  obtain ⟨F, x, xs, sf, h1, h2, q⟩ := h
  obtain ⟨as, r1⟩ := Dp.reads I _ u w (D.dp (c.mono sf h1)) ru
  obtain ⟨bs, r2⟩ := Dp.reads I _ v z ((dT D).dp ((rT c).mono sf h2)) rv
  refine PySem.SeqAt.notIn_tuple_data r2 r1 (plAll hp xs) (hp x) ?_ ⟨.bl _, H, I, rfl, by rw [any_dec]; exact q⟩
  have := hr.un
  have := D.dep x
  omega
theorem eb_inDT (D : Dt c) (hp : ∀ x, (D.d x).plain = true) (hr : Room kk X.A) (ha : EV X a Γ c x) (hb : EV X b Γ (rT c) xs) (hn : D.n ≤ 60 := by decide) (hm : behindInMarks .In b = false := by with_unfolding_all rfl) : EB X (.Compare a [.In] [b] pos) Γ (decide (x ∈ xs)) :=
  eb_cmp (op_inDT D hp hr hn) ha hb hm fun F H v w Q s h1 h2 z => ⟨F, x, xs, s, h1, h2, z⟩
theorem eb_ninDT (D : Dt c) (hp : ∀ x, (D.d x).plain = true) (hr : Room kk X.A) (ha : EV X a Γ c x) (hb : EV X b Γ (rT c) xs) (hn : D.n ≤ 60 := by decide) (hm : behindInMarks .NotIn b = false := by with_unfolding_all rfl) : EB X (.Compare a [.NotIn] [b] pos) Γ (!decide (x ∈ xs)) :=
  eb_cmp (op_ninDT D hp hr hn) ha hb hm fun F H v w Q s h1 h2 z => ⟨F, x, xs, s, h1, h2, z⟩
theorem count_dec (D : Dt c) (x : α) (xs : List α) : ((xs.map D.d).countP fun y => PyData.eqv y (D.d x)) = xs.countP fun y => decide (y = x) := by
  rw [List.countP_map]
  congr 1
  funext y
  exact D.dec y x
/-- a frozen tuple that has no dict of its own (as tuple(..) makes it) -/
def rTd {α : Type} (c : Rp α) : Rp (List α) :=
  ⟨fun K F v xs => ∃ a o vs, v = .ref a ∧ F a = some (.frz o (.tup vs)) ∧ o.dict = none ∧ PL c K F vs xs, fun s ⟨a, o, vs, e, h, d, p⟩ => ⟨a, o, vs, e, s _ _ h, d, PL.mono s p⟩⟩
theorem rTd_T {α : Type} {c : Rp α} {K : Frag} {F : Hp} {v : V} {xs : List α} (h : (rTd c).r K F v xs) : (rT c).r K F v xs :=
  let ⟨a, o, vs, e, h, _, p⟩ := h
  ⟨a, vs, e, .inl (.inr ⟨o, h⟩), p⟩
theorem EV.td {xs : List α} (h : EV X a Γ (rTd c) xs) : EV X a Γ (rT c) xs := PE.imp h fun σ H Q ⟨F0, H0, F, ok, q⟩ => ⟨F0, H0, F, ok, fun v F' H' g r => q v F' H' g (rTd_T r)⟩
/-- a method's call, whatever tells the thing's type -/
def tBMx (X : Cx) (T : String) (r : V → List V → Hp → VK → Prop) (to : TE) (t : TA) : TE := fun σ H Q => to σ H fun x H1 =>
  (∀ pins σ s v, Inv X pins σ H1 s → RelV x v → s.TypeIs v T ∧ ∀ a, v = .ref a → ∃ ob, s.heap.get? a = some ob ∧ ob.dict = none) ∧ t σ H1 fun xs H2 => r x xs H2 Q
theorem pe_bmx {o e : Expr} {es : List Expr} {to : TE} {t : TA} {name : Str} {apos cpos : Pos} {T id : String} {r : V → List V → Hp → VK → Prop} (pa : PlainAttrs T) (slot : Slot T name id) (hty : typeOf (.builtin id) = pure (.type "method_descriptor")) (hm : MtR X id r) (ho : PE X o to) (ha : PA X (e :: es) t)
    (hbase : attributeBase o name X.env (eval o X.env) = eval o X.env := by rfl)
    (hfew : ((backTo cpos (starEach (e :: es) X.env)).all (fun x => !x.1) && (backToKw cpos (keywordEach [] X.env)).all (fun x => x.1.isSome)
      && decide ((e :: es).length + ([] : List Keyword).length + (if ([] : List Keyword).isEmpty then 0 else 1) < 30)) = true := by rfl)
    (hline : (apos.endLine == cpos.line) = true := by rfl) (hs : starEach (e :: es) X.env = (false, eval e X.env) :: starEach es X.env := by rfl) (hplain : (backTo cpos (starEach es X.env)).any (·.1) = false := by rfl) :
    PE X (.Call (.Attribute o name apos) (e :: es) [] cpos) (tBMx X T r to t) := by
  refine ⟨fun pins s σ H Q I h => ?_⟩
  refine wpAny_Call_method_late hbase hfew hline rfl (thn (ho.run pins s σ H _ I h) fun v s1 ⟨x, H1, I1, r1, ty, q1⟩ => ?_)
  obtain ⟨h1, h2⟩ := ty pins σ s1 v I1 r1
  refine ⟨T, id, pa, slot, hty, h1, h2, ?_⟩
  have hA := ha.run cpos pins s1 σ H1 _ I1 q1
  rw [hs] at hA ⊢
  refine Calls.callWith_builtin (by show (false || (backTo cpos (starEach es X.env)).any (·.1)) = false; rw [hplain] <;> rfl) (Calls.evalArgs_plain ?_)
  exact thn hA fun us s2 ⟨vs, H2, I2, r2, q2⟩ => hm pins s2 σ H2 x vs v us Q I2 r1 r2 q2
theorem mt_countT (D : Dt c) (hp : ∀ x, (D.d x).plain = true) (hr : Room kk X.A) (hn : D.n ≤ 60) : MtR X "tuple.count" (fun v us H Q => ∃ F u x xs, us = [u] ∧ Same F H ∧ (rT c).r X.K F v xs ∧ c.r X.K F u x ∧ Q (.int (xs.countP fun y => decide (y = x))) H) := by
  intro pins s σ H v us w ws Q I rv ru h
  obtain ⟨F, u, x, xs, e, sf, h1, h2, q⟩ := h
  subst e
  obtain ⟨z, ez, rz⟩ := vals1 ru
  subst ez
  obtain ⟨l, vs, ev, hs, pl⟩ := (rT c).mono sf h1
  subst ev
  obtain rfl : w = Value.ref l := rv
  obtain ⟨its, rvs, t, hz⟩ := I.tuple hs
  obtain ⟨as, r1⟩ := Dp.reads I _ u z (D.dp (c.mono sf h2)) rz
  obtain ⟨bs, r2⟩ := Dp.readsAll I _ vs its (dpAll_of D pl) rvs
  refine PySem.SeqAt.count_tuple_data (vs := its.toArray) t (by simpa using r2) r1 (plAll hp xs) (hp x) ?_ ⟨.int _, H, I.tok _, ⟨_, rfl⟩, by rw [count_dec]; exact q⟩
  have := hr.un
  have := D.dep x
  omega
/-- xs.count(x), xs a tuple without a dict -/
theorem ev_countT {p3 : Pos} (D : Dt c) (hp : ∀ x, (D.d x).plain = true) (hr : Room kk X.A) (ha : EV X a Γ (rTd c) xs) (hb : EV X b Γ c x) (hn : D.n ≤ 60 := by decide) (hs1 : starEach [b] X.env = [(false, eval b X.env)] := by rfl)
    (hbase : attributeBase a "count" X.env (eval a X.env) = eval a X.env := by rfl)
    (hfew : ((backTo p3 (starEach [b] X.env)).all (fun x => !x.1) && (backToKw p3 (keywordEach [] X.env)).all (fun x => x.1.isSome)
      && decide (([b] : List Expr).length + ([] : List Keyword).length + (if ([] : List Keyword).isEmpty then 0 else 1) < 30)) = true := by rfl)
    (hline : (p2.endLine == p3.line) = true := by rfl) (hplain : (backTo p3 (starEach [] X.env)).any (·.1) = false := by rfl) : EV X (.Call (.Attribute a "count" p2) [b] [] p3) Γ rInt ((xs.countP fun y => decide (y = x) : Nat) : Int) :=
  PE.imp (pe_bmx PySem.F.plainAttrs_tuple PySem.F.slot_tuple_count PySem.F.type_tuple_count (mt_countT D hp hr hn) ha (ea1 hb hs1) hbase hfew hline hs1 hplain) fun σ H Q ⟨F0, H0, F, ok, q⟩ => ⟨F0, H0, F, ok, fun v F1 H1 g1 h1 => by
    obtain ⟨l, o, vs, ev, hF, hd, pl⟩ := id h1
    refine ⟨fun pins σ' s w I rw => ?_, F0, H0, F1, ok.grow g1, fun us F2 H2 g2 pa => ?_⟩
    · subst ev
      obtain rfl : w = Value.ref l := rw
      obtain ⟨he, _, _, _, ob, h2, h3, _⟩ := (show ObjOk X.prog X.w H1 s.heap l (.frz o (.tup vs)) from I.hok l _ (g1.sub _ _ hF))
      rw [he] at h2
      cases h2
      exact ⟨⟨o, he, h3⟩, fun a e => by cases e; exact ⟨o, he, hd⟩⟩
    · obtain _ | ⟨p1, p2⟩ := pa
      cases p2
      exact ⟨F2, _, x, xs, rfl, g2.sub, (rT c).mono g2.ff (rTd_T h1), p1, q _ F2 H2 (g1.trans g2) rfl⟩⟩
end
section
variable {X : Cx} {Γ : List Sl} {a b : Expr} {pos p p2 : Pos} {α : Type} {c : Rp α} {x : α} {xs : List α} {kk : Nat}
/-- tuple(xs), xs a list: told with its object -/
theorem call_tupleD : CallR X (.type "tuple") (fun xs H Q => ∃ p ys, xs = [.ref p] ∧ SqL X.K H p ys ∧ ∀ l o, H l = none → o.dict = none → Q (.ref l) (upd H l (.frz o (.tup ys)))) := by
  intro pins s σ H xs us Q I r h
  obtain ⟨p, ys, rfl, hq, q⟩ := h
  obtain ⟨u, rfl, rx⟩ := vals1 r
  cases rx
  obtain ⟨its, r', pl, hz⟩ := I.list hq
  have hlen := r'.length
  refine call_tuple_list pl.isList (fun h' kp => ?_) (by simp only [List.size_toArray] <;> omega)
  have I1 : Inv X pins σ H { s with heap := h' } := I.kept (t' := s.toks) kp
  have I2 : Inv X pins σ (upd H h'.objs.size (.frz { cls := .type "tuple", data := .seq its.toArray } (.tup ys))) { s with heap := h'.push { cls := .type "tuple", data := .seq its.toArray } } :=
    I1.laid (t' := s.toks) (fun b o e => Heap.get?_push_of_some _ e) (Nat.le_refl _) (show ObjOk X.prog X.w _ _ _ (.frz _ (.tup ys)) from ⟨Heap.get?_push_size _ rfl, hz, its, r', IsTup.new _ _⟩)
  exact ⟨.ref h'.objs.size, _, I2, rfl, q _ _ (I1.hok.fresh (Nat.le_refl _)) rfl⟩
theorem ev_tupLd (hm : X.mg "tuple" = none) (ha : EL X a Γ c xs) (hg : Gl X "tuple" := by rfl) (hs : starEach [a] X.env = [(false, eval a X.env)] := by rfl) : EV X (.Call (.Name "tuple" p) [a] [] pos) Γ (rTd c) xs :=
  ez_t1 call_tupleD hm (by decide +kernel) ha (fun F H v Q s ⟨l, vs, ev, hl, pl⟩ z => ⟨l, vs, by rw [ev], hl, fun t o ht hd => z _ (upd F t (.frz o (.tup vs))) _ (Gr.put s ht) ⟨t, o, vs, rfl, upd_same, hd, PL.mono (same_upd (none_of_same s ht)) pl⟩⟩) hg (by decide) (by decide) hs
/-! ### isinstance with the types of the language -/
structure Ty {α : Type} (c : Rp α) (t : String) : Prop where
  ty : ∀ {K F v x}, c.r K F v x → TyX K F v (.type t)
theorem tyInt : Ty rInt "int" := ⟨fun h => by cases (show _ = _ from h); exact .base (.int _)⟩
theorem tyBool : Ty rBool "bool" := ⟨fun h => by cases (show _ = _ from h); exact .base (.bl _)⟩
theorem tyTx : Ty rTx "str" := ⟨fun h => by cases (show _ = _ from h); exact .base (.str _)⟩
theorem tySq {K : Frag} {F : Hp} {a : Addr} {vs : List V} (h : SqT K F a vs) : TyX K F (.ref a) (.type "tuple") := by
  rcases h with (h | ⟨o, h⟩) | h
  · exact .base (.tup h)
  · exact .fTuple h
  · obtain ⟨o, _, _, e, c, _⟩ := h
    exact .kTuple e c
theorem tyT {α : Type} {c : Rp α} : Ty (rT c) "tuple" := ⟨fun ⟨a, vs, e, h, _⟩ => by subst e; exact tySq h⟩
theorem ty2 {α β : Type} {c : Rp α} {d : Rp β} : Ty (r2 c d) "tuple" := ⟨fun ⟨a, v1, v2, e, h, _⟩ => by subst e; exact tySq h⟩
theorem ev_isi {t : String} (T : String) {n : Str} {k : Bool} {p4 : Pos} (ty : Ty c t) (hm : X.mg "isinstance" = none) (ha : EV X a Γ c x) (hmt : X.mg n = none) (hb : bootBuiltins n = some (.type T) := by decide +kernel) (hk : kitB t T = some k := by decide +kernel) (hg2 : Gl X n := by rfl) (hn2 : n ≠ "__name__" := by decide) (hd2 : (n == ("__debug__" : Str)) = false := by decide) (hg : Gl X "isinstance" := by rfl)
    (hs : starEach [a, .Name n p4] X.env = (false, eval a X.env) :: starEach [.Name n p4] X.env := by rfl) (hs2 : starEach [.Name n p4] X.env = [(false, eval (.Name n p4) X.env)] := by rfl) (hpl : (backTo pos (starEach [.Name n p4] X.env)).any (·.1) = false := by rfl) :
    EV X (.Call (.Name "isinstance" p) [a, .Name n p4] [] pos) Γ rBool k :=
  ez_b2 (P2 := ⟨fun _ _ _ v => v = .ty T, fun _ h => h⟩) call_isi hm (by decide +kernel) ha (PE.imp (pe_bltn hg2 hmt hb (v := .ty T) rfl hn2 hd2) fun σ H Q ⟨F0, H0, F, ok, q⟩ => q _ F H (Gr.refl ok.sub) rfl)
    (fun F H v w Q s h1 h2 z => ⟨v, w, .type t, .type T, k, rfl, by rw [h2]; exact .ty T, ty.ty (c.mono s h1), kit_ty hk, z _ F H (Gr.refl s) rfl⟩) hg (by decide) (by decide) hs hs2 hpl
/-- any value -/
def rAny : Rp Unit := ⟨fun _ _ _ _ => True, fun _ h => h⟩
theorem EV.any (h : EV X a Γ c x) : EV X a Γ rAny () := PE.imp h fun σ H Q ⟨F0, H0, F, ok, q⟩ => ⟨F0, H0, F, ok, fun v F' H' g r => q v F' H' g trivial⟩
end
end Z

set_option Elab.async false
set_option linter.all false
set_option maxRecDepth 100000
set_option maxHeartbeats 4000000
/-! Zed: defs without a result, calls as statements. -/
namespace Z
open PySem PySem.Spec PyProof.Rows L2
def outN : Out Unit := { nx := fun _ => True, c := rNon, rt := fun _ => True }
theorem ct_non {K : Frag} {F H : Hp} {Q : VK} (h : ∀ v F' H', Gr F H F' H' → rNon.r K F' v () → Q v H') : Ct K F H F outN { nx := fun _ H' => Q .non H', rt := Q } :=
  ⟨fun _ _ F' H' _ s k => h .non F' H' k.gr rfl, fun x v F' H' e g r => h v F' H' g r, fun _ _ _ _ h => h.elim, fun _ _ _ _ h => h.elim⟩
section
variable {P : Program} {w : World} {K : PySem.W.Frag} {mg : Str → Option Value} {base : Heap} {ι : Type} {As : ι → List Sl} {pre : ι → Prop} {x : Str} {st : Stmt} {N ps : List Str} {k : Nat}
theorem _root_.L2.FunD.zn {x qual : Str} {params : Arguments} {body : List Stmt} {scope : Scope} {dvs : List V} {kws : List (Str × V)} {f : Addr} {fd : FuncData} (F : FunD K x qual params body scope dvs kws f fd) (S : FnScope N ps scope) (hl : ∀ a, (As a).length = ps.length) (hz : ps.length ≤ N.length)
    (hb : ∀ a, pre a → ∀ (cdv : Value) (A : Around) (outer : List Env) (s : Shared) (H : Hp) (E : XK), Room k (A.deeper (envOfC qual scope s.heap.objs.size f cdv)) →
      SS (cxz P w K mg base N qual scope f cdv A outer s H E) body (As a ++ List.replicate (N.length - ps.length) .un) outN) : FnOk P w K mg base CX0 (k + 1) f fd ps (spZ K As pre (fun _ => rNon) (fun _ => ())) :=
  F.ok S (fun vs H Q E ⟨a, F', _, h, _⟩ => (ArgsOk.length h).trans (hl a)) fun cdv A outer s H vs Q E hr ⟨a, F', sF, h, hp, q⟩ => by
    refine ⟨_, (hb a hp cdv A outer s H E hr).nox, F', H, F', ?_, ct_non q⟩
    have := ok_start (N := N) sF h (by rw [hl]; exact hz)
    rw [hl] at this
    exact this
theorem Fn0.dfn (F : Fn0 K mg x st []) (S : FnScope N ps (defScope st)) (hl : ∀ a, (As a).length = ps.length) (hz : ps.length ≤ N.length)
    (h : ∀ (kV doc pm : Value) (an : Option Addr) (cdv ct : Value) (us : List Value), us.length = ps.length → bindArgs (PySem.W.fnOf x x (defArgs st) (defBody st) (defScope st) .none kV doc pm an cdv ct) ⟨us, []⟩ = pure (ps.zip us))
    (hb : ∀ a, pre a → ∀ (f : Addr) (cdv : Value) (A : Around) (outer : List Env) (s : Shared) (H : Hp) (E : XK), Room k (A.deeper (envOfC x (defScope st) s.heap.objs.size f cdv)) →
      SS (cxz P w K mg base N x (defScope st) f cdv A outer s H E) (defBody st) (As a ++ List.replicate (N.length - ps.length) .un) outN) : Df P w K mg base (k + 1) x As pre (fun _ => rNon) (fun _ => ()) := by
  obtain ⟨f, fd, F, hm⟩ := F.ex
  exact Df.of (F.zn S hl hz fun a hp => hb a hp f) hm F.kp (F.bindsN h)
end
section
variable {ρ : Type} {X : Cx} {Γ : List Sl} {O : Out ρ} {e : Expr} {rest : List Stmt} {pos : Pos} {α : Type} {c : Rp α} {x : α}
/-- e, as a statement -/
theorem ss_ex (he : EV X e Γ c x) (h : SS X rest Γ O) (hs : swapsWith e none pos.line X.env = pure false := by rfl) : SS X (.Expr e pos :: rest) Γ O :=
  ss_step (ps_expr he hs) fun F0 H0 F D σ H ok q => ⟨F0, H0, F, ok, fun v F' H' g r => ⟨Γ, O, h, F0, H0, F', ok.grow g, q.step g.ff⟩⟩
end
end Z

set_option Elab.async false
set_option linter.all false
set_option maxRecDepth 100000
set_option maxHeartbeats 4000000
/-! Zed: sorted over a tuple of data. -/
namespace Z
open PySem PySem.Calls PySem.Spec PyProof.Rows PySem.W
section
variable {prog : Program} {w : World} {A : Around} {E : Value → Shared → Prop} {s : Shared} {κ : PyProof.Rows.KeyKind}
theorem collect_tupx {l : Addr} {vs : List Value} {Q : List Value → Shared → Prop} (hl : IsTup s.heap l vs.toArray)
    (h : Q vs { s with heap := (s.heap.push (seqObj "list" #[] 0)).update s.heap.objs.size (Obj.mapSeq (· ++ vs.toArray)) }) (hsz : vs.length ≤ sizeLine) :
    wpAny (model prog w) A (collect (.ref l)) Q E s := by
  obtain ⟨o, ho, hc, n, hd⟩ := id hl
  unfold collect
  refine wpAny_bind (wpAny_runValue (codeAny_builtin entry_proto_collect' ?_))
  show wpAny _ _ (do again (.builtin "list.__iadd__" ⟨[← newList [], .ref l], []⟩)) _ _ s
  refine wpAny_bind (wpAny_newList (wpAny_pure ⟨Code.quiet_builtin _ (by decide +kernel), codeAny_builtin entry_list_iadd' ?_⟩))
  show wpAny _ _ (Builtin.List.listExtendWith (.ref s.heap.objs.size) (.ref l) (.ref s.heap.objs.size)) _ _ { s with heap := s.heap.push (seqObj "list" #[] 0) }
  unfold Builtin.List.listExtendWith
  have ho' : (s.heap.push (seqObj "list" #[] 0)).get? l = some o := Heap.get?_push_of_some _ ho
  refine wpAny_bind (wpAny_typeOf (T := "tuple") ⟨o, ho', hc⟩ ?_)
  have ht : (Value.type "tuple" == Value.type "tuple") = true := by rfl
  rw [if_pos (by rw [ht]; simp)]
  refine wpAny_bind (listItems_at ho' hd ?_)
  refine wpAny_bind (listItems_at (xs := #[]) (n := 0) (Heap.get?_push_size _ rfl) rfl ?_)
  rw [if_neg (by simp)]
  refine wpAny_bind (listUpdate_at (xs := #[]) (n := 0) (Heap.get?_push_size _ rfl) rfl ?_ (Nat.zero_le _) (by show (#[] ++ vs.toArray).size ≤ sizeLine + 1; simp only [Array.size_append, List.size_toArray, List.length_nil]; omega))
  refine wpAny_pure ?_
  show wpAny (model prog w) A (do
      let o ← load s.heap.objs.size
      match o.data with
      | .seq xs _ => pure xs.toList
      | _ => unsupported "internal:collect") Q E { s with heap := (s.heap.push (seqObj "list" #[] 0)).update s.heap.objs.size (Obj.mapSeq (· ++ vs.toArray)) }
  refine wpAny_bind (wpAny_load (get?_update_seq (Heap.get?_push_size _ rfl) _) ?_)
  show wpAny _ _ (pure ((#[] : Array Value) ++ vs.toArray).toList) Q E _
  rw [show ((#[] : Array Value) ++ vs.toArray).toList = vs by simp]
  exact wpAny_pure h
theorem sorted_valsT {l : Addr} {vs : List Value} {Q : Value → Shared → Prop} (hl : IsTup s.heap l vs.toArray) (S : SortsAt prog w A.in1.in1 { s with heap := sortingHeap (copyHeap s.heap vs) (s.heap.objs.size + 1) vs } κ vs) (hL : vs.length ≤ sizeLine)
    (h : Q (.ref (s.heap.objs.size + 1)) { s with heap := sortedAll s.heap vs (sortVals κ false vs vs).toArray }) : wpAny (model prog w) A (call (.builtin "sorted") [.ref l]) Q E s := by
  refine call_function_entry_kw kind_sorted plain_sorted entry_sorted (args_sorted1 _) ?_
  unfold Builtin.«sorted»
  refine wpAny_bind (m := checkCount "sorted" 1 1 _) (wpAny_pure ?_)
  refine wpAny_bind (collect_tupx hl ?_ hL)
  refine wpAny_bind (wpAny_newList ?_ hL)
  have hsz : ((s.heap.push (seqObj "list" #[] 0)).update s.heap.objs.size (Obj.mapSeq (· ++ vs.toArray))).objs.size = s.heap.objs.size + 1 := by
    rw [Heap.size_update, size_push']
  show wpAny _ _ _ _ _ { s with heap := copyHeap s.heap vs }
  rw [hsz]
  refine wpAny_bind (wpAny_holding (wpAny_call_entry_kw slot_list_sort ⟨_, copyHeap_at s.heap vs, rfl⟩ entry_list_sort ?body (args_list_sort _)))
  case body =>
    show wpAny (model prog w) A.in1.in1 (Builtin.«list.sort» ⟨[.ref (s.heap.objs.size + 1)], []⟩) _ _ _
    exact list_sort_vals (s := { s with heap := copyHeap s.heap vs }) (copyHeap_at s.heap vs) S hL ⟨_, rfl, wpAny_pure ⟨_, rfl, h⟩⟩
theorem sorted_dataT {β : Type} {vs : List Value} {bs : List β} {enc : β → PyData} {R : Value → β → Prop} {l : Addr} {Q : Value → Shared → Prop} (hl : IsTup s.heap l vs.toArray) (e : EachIs R vs bs) (er : EachIs (fun v b => ∃ as, Reads s.heap v (enc b) as) vs bs) (hal : AllAlike (bs.map enc)) (hk : Sortable (bs.map enc)) (hL : bs.length ≤ sizeLine)
    (hu : ∀ b, b ∈ bs → A.units + 2 + (enc b).depth < cLine) (h : ∀ out, out.length = bs.length → EachIs R out (bs.mergeSort (dataLe false enc)) → Q (.ref (s.heap.objs.size + 1)) { s with heap := sortedAll s.heap vs (List.toArray out) }) :
    wpAny (model prog w) A (call (.builtin "sorted") [.ref l]) Q E s := by
  have er' : EachIs (fun v b => ∃ as, Reads (sortingHeap (copyHeap s.heap vs) (s.heap.objs.size + 1) vs) v (enc b) as) vs bs := er.mono fun _ _ ⟨as, r⟩ => ⟨as, PyProof.Rows.Reads.keeps (fun _ _ => sorting_copy_old) r⟩
  exact sorted_valsT hl (SortsAt.data (s := { s with heap := sortingHeap (copyHeap s.heap vs) (s.heap.objs.size + 1) vs }) (each_map (R := fun v d => ∃ as, Reads (sortingHeap (copyHeap s.heap vs) (s.heap.objs.size + 1) vs) v d as) enc er') hal hk (bound_map hu)) (by rw [e.length]; exact hL)
    (h _ (by rw [sortVals_length false rfl]; exact e.length) (sortVals_data false e er' hal))
end
end Z
namespace Z
open PySem PySem.Spec PyProof.Rows L2
open PySem.W (alike alikeAll AllAlike Sortable EachIs dataLe dataLt dataLe_eq TotalLe sortLe_total)
section
variable {α : Type} {c : Rp α} {X : Cx} {Γ : List Sl} {a b : Expr} {pos p p2 : Pos} {kk : Nat}
theorem call_sortedDtT (D : Dt c) (A : Al D) (hr : Room kk X.A) (hn : D.n ≤ 60) : CallR X (.builtin "sorted") (fun us H Q => ∃ l vs xs F, us = [.ref l] ∧ SqT X.K H l vs ∧ Same F H ∧ PL c X.K F vs xs ∧ Sortable (xs.map D.d) ∧ ∀ q vs', H q = none → PL c X.K F vs' (srtD D xs) → Q (.ref q) (upd H q (.lst vs'))) := by
  intro pins s σ H vs us Q I r h
  obtain ⟨l, vs, xs, F, rfl, hs, sf, pl, hso, q⟩ := h
  obtain ⟨its, rv, hl, hz⟩ := I.tuple hs
  rw [Vals.ref1 r]
  have e0 := each_of (R := RelV) rv pl
  have hlen : xs.length ≤ sizeLine := by rw [← Paired.length pl]; exact hz
  have hu : ∀ b, b ∈ xs → X.A.units + 2 + (D.d b).depth < cLine := fun b _ => by
    have := hr.un
    have := D.dep b
    omega
  refine sorted_dataT (enc := D.d) (R := fun u x => ∃ v, RelV v u ∧ c.r X.K F v x) hl e0 (each_mono (fun u x ⟨v, r1, r2⟩ => Dp.reads I _ v u (D.dp (c.mono sf r2)) r1) e0) (AllAlike.of A.al) hso hlen hu fun out ho eo => ?_
  obtain ⟨vs', h1, h2⟩ := each_back eo
  obtain ⟨ep, he'⟩ := PyProof.Rows.sortedAll_at s.heap its (List.toArray out)
  have hl2 : vs'.length ≤ sizeLine := by rw [Paired.length h1, ho]; exact hlen
  exact ⟨.ref _, upd H (s.heap.objs.size + 1) (.lst vs'), I.laid (t' := s.toks) (fun _ _ => PyProof.Rows.sortedAll_old) (Nat.le_succ _) ⟨hl2, out, ep, h1, he'⟩, rfl, q _ vs' (I.hok.fresh (Nat.le_succ _)) h2⟩
theorem eo_sortDT {xs : List α} (D : Dt c) (A : Al D) (hr : Room kk X.A) (hm : X.mg "sorted" = none) (ha : EV X a Γ (rT c) xs) (hso : Sortable (xs.map D.d)) (hn : D.n ≤ 60 := by decide) (hg : Gl X "sorted" := by rfl) (hs : starEach [a] X.env = [(false, eval a X.env)] := by rfl) :
    EO X (.Call (.Name "sorted" p) [a] [] pos) Γ (.ol c (srtD D xs)) :=
  eo_b1 (call_sortedDtT D A hr hn) hm (by decide +kernel) ha (fun F H v Q sf ⟨l, vs, ev, hsq, pl⟩ z => ⟨l, vs, xs, F, by rw [ev], SqT.same sf hsq, sf, pl, hso, fun q vs' hq pl' => z q _ F _ (Gr.hold sf hq) (none_of_same sf hq) hq upd_same ⟨vs', rfl, pl'⟩⟩) hg (by decide) (by decide) hs
end
end Z

set_option Elab.async false
set_option linter.all false
set_option maxRecDepth 100000
set_option maxHeartbeats 4000000
namespace Q
open PySem PySem.Spec PyProof.Rows L2 Z
def topS (i : Nat) : Stmt := PySem.Challenge.pw_oneleftout_k73_worths.main.body.getD i (.Pass ⟨0, 0, 0, 0⟩)
end Q

set_option Elab.async false
set_option linter.all false
set_option maxRecDepth 100000
set_option maxHeartbeats 4000000
namespace Q
open PySem PySem.Spec PyProof.Rows L2 Z
/-- the built-in names that a text uses are not its own -/
structure Bt (mg : Str → Option Value) : Prop where
  len : mg "len" = none
  range : mg "range" = none
  int : mg "int" = none
  tuple : mg "tuple" = none
  list : mg "list" = none
  sorted : mg "sorted" = none
  sum : mg "sum" = none
  max : mg "max" = none
  min : mg "min" = none
  abs : mg "abs" = none
  bool : mg "bool" = none
  str : mg "str" = none
  isin : mg "isinstance" = none
theorem lt1 {a b : Nat} : decide ([a] < [b]) = decide (a < b) := by
  have : ([a] < [b]) ↔ a < b := by simp [List.cons_lt_cons_iff]
  exact decide_eq_decide.mpr this
theorem getD_some {α : Type} {l : List α} {k : Nat} (d : α) (h : k < l.length) : l[k]? = some (l.getD k d) := by
  rw [List.getD_eq_getElem?_getD, List.getElem?_eq_getElem h]
  rfl
theorem pick_at {α : Type} (xs : List α) (d : α) {i : Int} (h : 0 ≤ i) (h2 : i < (xs.length : Int)) : atI xs i = some (xs.getD i.toNat d) := atI_nat' (n := i.toNat) (by omega) (getD_some d (by omega))
@[simp] theorem cut_to {α : Type} (l : List α) (n : Nat) : cut l none (some n) = l.take n := by simp [cut]
@[simp] theorem cut_from {α : Type} (l : List α) (n : Nat) : cut l (some n) none = l.drop n := by simp [cut]
theorem foldl_app {α β : Type} (f : α → β) : ∀ (xs : List α) (acc : List β), xs.foldl (fun a x => a ++ [f x]) acc = acc ++ xs.map f
  | [], acc => by simp
  | x :: xs, acc => by
    rw [List.foldl_cons, foldl_app f xs]
    simp
theorem foldl_appL {α β : Type} (f : α → List β) : ∀ (xs : List α) (acc : List β), xs.foldl (fun a x => a ++ f x) acc = acc ++ xs.flatMap f
  | [], acc => by simp
  | x :: xs, acc => by
    rw [List.foldl_cons, foldl_appL f xs]
    simp
theorem rng_mem {n : Nat} {i : Int} : i ∈ rng 0 n ↔ 0 ≤ i ∧ i < n := by
  constructor
  · intro h
    obtain ⟨j, hj⟩ := List.mem_iff_getElem?.mp h
    have := rng_get.mp hj
    omega
  · intro h
    refine List.mem_of_getElem? (i := i.toNat) (rng_get.mpr ?_)
    omega
theorem rng_succ (n : Nat) : rng 0 (n + 1) = rng 0 n ++ [(n : Int)] := by
  unfold rng
  rw [List.range_succ, List.map_append]
  simp
def isAns (l : List Nat) : Bool := decide (2 ≤ l.length ∧ l.length ≤ 4) && l.all (fun c => decide (97 ≤ c ∧ c ≤ 122)) && decide (l.Pairwise (· < ·))
theorem isAns_iff {l : List Nat} (h : isAns l = true) : (2 ≤ l.length ∧ l.length ≤ 4) ∧ (∀ c ∈ l, 97 ≤ c ∧ c ≤ 122) ∧ l.Pairwise (· < ·) := by
  unfold isAns at h
  simp only [Bool.and_eq_true, decide_eq_true_eq, List.all_eq_true] at h
  exact ⟨h.1.1, h.1.2, h.2⟩
/-! ### ratios -/
def gcdI (a b : Int) : Int := (Int.gcd a b : Nat)
theorem gcdI_pos {a b : Int} (h : b ≠ 0) : 0 < gcdI a b := by
  have : 0 < Int.gcd a b := Int.gcd_pos_of_ne_zero_right a h
  unfold gcdI
  omega
/-- top by bottom in lowest terms -/
def norm (a b : Int) : Int × Int := (a / gcdI a b, b / gcdI a b)
/-- the ratio of a program's ratio(top, bottom) -/
def ratioM (a b : Int) : Int × Int := if b < 0 then norm (-a) (-b) else norm a b
end Q

set_option Elab.async false
set_option linter.all false
set_option maxRecDepth 100000
set_option maxHeartbeats 4000000
namespace Q
open PySem PySem.Spec PyProof.Rows L2 Z
/-- a rational as a pair in lowest terms -/
def ofR (q : Rat) : Int × Int := (q.num, (q.den : Int))
theorem ofR_inj {p q : Rat} (h : ofR p = ofR q) : p = q := by
  have h1 : p.num = q.num := congrArg Prod.fst h
  have h2 : (p.den : Int) = q.den := congrArg Prod.snd h
  exact Rat.ext h1 (by omega)
/-- a by b -/
abbrev frac (a b : Int) : Rat := Rat.divInt a b
theorem ratio_pair {a b s : Int} (hb : b ≠ 0) (hs : s = if b < 0 then -1 else 1) : (s * a / gcdI a b, s * b / gcdI a b) = ofR (frac a b) := by
  have hs2 : s = b.sign := by
    rw [hs]
    by_cases h : b < 0
    · rw [if_pos h, Int.sign_eq_neg_one_of_neg h]
    · rw [if_neg h, Int.sign_eq_one_of_pos (by omega)]
  have hg : gcdI a b = (b.gcd a : Nat) := by
    unfold gcdI
    rw [Int.gcd_comm]
  unfold ofR
  rw [Rat.num_divInt, Rat.den_divInt, if_neg hb, hg, hs2]
  refine Prod.ext rfl ?_
  show b.sign * b / _ = _
  rw [show b.sign * b = (b.natAbs : Int) by rw [Int.mul_comm, Int.mul_sign_self]]
  rw [← Int.natCast_ediv]
theorem frac_eq {a b : Int} : frac a b = (a : Rat) / (b : Rat) := Rat.divInt_eq_div a b
theorem frac_iff {a b c d : Int} (hb : b ≠ 0) (hd : d ≠ 0) : frac a b = frac c d ↔ a * d = c * b := by
  have := Rat.divInt_eq_divInt_iff (n₁ := a) (n₂ := c) hb hd
  exact this
theorem frac_add {a b c d : Int} (hb : b ≠ 0) (hd : d ≠ 0) : frac a b + frac c d = frac (a * d + c * b) (b * d) := Rat.divInt_add_divInt _ _ hb hd
theorem frac_mul {a b c d : Int} : frac a b * frac c d = frac (a * c) (b * d) := Rat.divInt_mul_divInt _ _
theorem ofR_den_pos (q : Rat) : 0 < (ofR q).2 := by
  have := q.den_pos
  show (0 : Int) < (q.den : Int)
  omega
theorem ofR_frac (q : Rat) : frac (ofR q).1 (ofR q).2 = q := Rat.num_divInt_den q
theorem ofR_gcd (q : Rat) : gcdI (ofR q).1 (ofR q).2 = 1 := by
  have := q.reduced
  unfold gcdI ofR
  show ((Int.gcd q.num (q.den : Int) : Nat) : Int) = 1
  rw [show Int.gcd q.num (q.den : Int) = Nat.gcd q.num.natAbs q.den from rfl]
  rw [this]
  rfl
theorem ofR_lt {p q : Rat} : ((ofR p).1 * (ofR q).2 < (ofR q).1 * (ofR p).2) ↔ p < q := (Rat.lt_iff p q).symm
end Q

set_option Elab.async false
set_option linter.all false
set_option maxRecDepth 100000
set_option maxHeartbeats 4000000
namespace Q
open PySem PySem.Spec PyProof.Rows L2 Z
theorem ev_fdivW {X : Cx} {Γ : List Sl} {a b : Expr} {pos : Pos} {i j : Int} (ha : EV X a Γ rInt i) (hb : EV X b Γ rInt j) (hc : CDivW i j) : EV X (.BinOp a .FloorDiv b pos) Γ rInt (i / j) := ev_iiC op_fdivW ha hb hc
theorem ev_mulW {X : Cx} {Γ : List Sl} {a b : Expr} {pos : Pos} {i j : Int} (ha : EV X a Γ rInt i) (hb : EV X b Γ rInt j) (hc : CMulW i j) : EV X (.BinOp a .Mult b pos) Γ rInt (i * j) := ev_iiC op_mulW ha hb hc
/-- small enough to be a divisor -/
def Sm (b : Int) : Prop := b ≠ 0 ∧ b.natAbs < 2 ^ 250
theorem sm_gcd {a b : Int} (h : Sm b) : CDivW a (gcdI a b) := by
  have h1 := gcdI_pos (a := a) h.1
  refine ⟨h1, ?_⟩
  have h2 : (gcdI a b).natAbs ≤ b.natAbs := by
    unfold gcdI
    rw [Int.natAbs_natCast]
    exact Nat.le_of_dvd (by have := h.1; omega) (Int.gcd_dvd_natAbs_right a b)
  have h3 : (gcdI a b).natAbs ≠ 0 := by omega
  have h4 : (gcdI a b).natAbs < 2 ^ 250 := Nat.lt_of_le_of_lt h2 h.2
  have := (Nat.log2_lt h3).mpr h4
  omega
theorem sm_of {b : Int} (h1 : 0 < b) (h2 : b < 2 ^ 64) : Sm b := ⟨by omega, Nat.lt_of_lt_of_le (show b.natAbs < 2 ^ 64 by omega) (Nat.pow_le_pow_right (by decide) (by decide))⟩
section
variable (P : Program) (w : World) (K : PySem.W.Frag) (mg : Str → Option Value) (base : Heap)
abbrev T_gcd (n : Str) : Prop := Df P w K mg base 1 n (fun a : Int × Int => [.v rInt a.1, .v rInt a.2]) (fun _ => True) (fun _ => rInt) (fun a => gcdI a.1 a.2)
abbrev rRt : Rp (Int × Int) := r2 rInt rInt
abbrev T_ratio (n : Str) : Prop := Df P w K mg base 2 n (fun a : Int × Int => [.v rInt a.1, .v rInt a.2]) (fun a => Sm a.2) (fun _ => rRt) (fun a => ofR (frac a.1 a.2))
end
section
variable {P : Program} {w : World} {K : PySem.W.Frag} {mg : Str → Option Value} {base : Heap}
/-! ### the divisor -/
abbrev sGcd : Stmt := topS 13
theorem scGcd : FnScope ["one", "two", "first", "second", "rest"] ["one", "two"] (defScope sGcd) := ⟨rfl, rfl, rfl, by decide +kernel, rfl, by decide +kernel, by decide +kernel⟩
theorem D_gcd (F : Fn0 K mg "common_divisor" sGcd []) (B : Bt mg) : T_gcd P w K mg base "common_divisor" := by
  refine F.df scGcd (fun _ => rfl) (by decide) (fun _ _ _ _ _ _ us hl => match us, hl with | [_, _], _ => rfl) fun ⟨a, b⟩ _ f cdv A outer s H E hr => ?_
  show SS _ _ [.v rInt a, .v rInt b, .un, .un, .un] (outR rInt (gcdI a b))
  refine ss_set 2 scGcd.nd (ev_abs B.abs (ev 0)) ?_
  refine ss_set 3 scGcd.nd (ev_abs B.abs (ev 1)) ?_
  refine ss_while (fun m Γ => ∃ f s : Nat, ∃ sl : Sl, Nat.gcd f s = Int.gcd a b ∧ m = s ∧ Γ = [.v rInt a, .v rInt b, .v rInt (f : Int), .v rInt (s : Int), sl]) b.natAbs ⟨a.natAbs, b.natAbs, .un, rfl, rfl, rfl⟩ (fun m Γ ⟨f, s, sl, hg, hm, e⟩ => ?_)
  subst e
  refine ⟨_, eb_neI (ev 3) ev_int, fun h => ?_, fun h => ?_⟩
  · have hs : s ≠ 0 := by
      rintro rfl
      simp at h
    refine ss_set 4 scGcd.nd (x := ((f % s : Nat) : Int)) (EV.cast (ev_mod (ev_intI B.int (ev 2)) (ev 3) (by omega)) (by rw [Int.natCast_emod])) ?_
    refine ss_set 2 scGcd.nd (ev 3) ?_
    refine ss_set 3 scGcd.nd (ev 4) ?_
    refine ss_nil ⟨f % s, ?_, s, f % s, _, ?_, rfl, rfl⟩
    · rw [hm]
      exact Nat.mod_lt _ (by omega)
    · rw [← hg, Nat.gcd_comm s, ← Nat.gcd_rec, Nat.gcd_comm]
  · have hs : s = 0 := by
      by_cases c : s = 0
      · exact c
      · simp [c] at h
    subst hs
    refine ss_ret (ev 2) ?_
    show (f : Int) = gcdI a b
    unfold gcdI
    rw [← hg, Nat.gcd_zero_right]
abbrev sGcl : Stmt := topS 29
theorem scGcl : FnScope ["one", "two", "kept"] ["one", "two"] (defScope sGcl) := ⟨rfl, rfl, rfl, by decide +kernel, rfl, by decide +kernel, by decide +kernel⟩
theorem D_gcdl (F : Fn0 K mg "_law_divisor" sGcl []) (B : Bt mg) : T_gcd P w K mg base "_law_divisor" := by
  refine F.df scGcl (fun _ => rfl) (by decide) (fun _ _ _ _ _ _ us hl => match us, hl with | [_, _], _ => rfl) fun ⟨a, b⟩ _ f cdv A outer s H E hr => ?_
  show SS _ _ [.v rInt a, .v rInt b, .un] (outR rInt (gcdI a b))
  refine ss_set 0 scGcl.nd (ev_abs B.abs (ev 0)) ?_
  refine ss_set 1 scGcl.nd (ev_abs B.abs (ev 1)) ?_
  refine ss_while (fun m Γ => ∃ f s : Nat, ∃ sl : Sl, Nat.gcd f s = Int.gcd a b ∧ m = s ∧ Γ = [.v rInt (f : Int), .v rInt (s : Int), sl]) b.natAbs ⟨a.natAbs, b.natAbs, .un, rfl, rfl, rfl⟩ (fun m Γ ⟨f, s, sl, hg, hm, e⟩ => ?_)
  subst e
  refine ⟨_, eb_neI (ev 1) ev_int, fun h => ?_, fun h => ?_⟩
  · have hs : s ≠ 0 := by
      rintro rfl
      simp at h
    refine ss_set 2 scGcl.nd (x := ((f % s : Nat) : Int)) (EV.cast (ev_mod (ev_intI B.int (ev 0)) (ev 1) (by omega)) (by rw [Int.natCast_emod])) ?_
    refine ss_set 0 scGcl.nd (ev 1) ?_
    refine ss_set 1 scGcl.nd (ev 2) ?_
    refine ss_nil ⟨f % s, ?_, s, f % s, _, ?_, rfl, rfl⟩
    · rw [hm]
      exact Nat.mod_lt _ (by omega)
    · rw [← hg, Nat.gcd_comm s, ← Nat.gcd_rec, Nat.gcd_comm]
  · have hs : s = 0 := by
      by_cases c : s = 0
      · exact c
      · simp [c] at h
    subst hs
    refine ss_ret (ev 0) ?_
    show (f : Int) = gcdI a b
    unfold gcdI
    rw [← hg, Nat.gcd_zero_right]
/-! ### ratios -/
abbrev sRat : Stmt := topS 14
theorem scRat : FnScope ["top", "bottom", "sign", "shared"] ["top", "bottom"] (defScope sRat) := ⟨rfl, rfl, rfl, by decide +kernel, rfl, by decide +kernel, by decide +kernel⟩
theorem D_ratio (F : Fn0 K mg "ratio" sRat []) (B : Bt mg) (G : T_gcd P w K mg base "common_divisor") : T_ratio P w K mg base "ratio" := by
  refine F.df scRat (fun _ => rfl) (by decide) (fun _ _ _ _ _ _ us hl => match us, hl with | [_, _], _ => rfl) fun ⟨a, b⟩ hz f cdv A outer s H E hr => ?_
  replace hz : Sm b := hz
  show SS _ _ [.v rInt a, .v rInt b, .un, .un] (outR rRt (ofR (frac a b)))
  refine ss_if (eb_eqI (ev 1) ev_int) (fun h => absurd (of_decide_eq_true h) hz.1) (fun _ => ss_nil ?_)
  refine ss_set 2 scRat.nd ev_int ?_
  refine ss_ifJ [.v rInt a, .v rInt b, .v rInt (if b < 0 then -1 else 1), .un] (eb_lt (ev 1) ev_int) (fun h => ?_) (fun h => ?_) ?_
  · refine ss_set 2 scRat.nd (ev_neg ev_int) (ss_nil ?_)
    rw [if_pos (of_decide_eq_true h)]
    exact ⟨.inr rfl, .inr rfl, .inr rfl, .inr rfl, trivial⟩
  · refine ss_nil ?_
    rw [if_neg (of_decide_eq_false h)]
    exact ⟨.inr rfl, .inr rfl, .inr rfl, .inr rfl, trivial⟩
  · have hs : -(2 ^ 64) < (if b < 0 then (-1 : Int) else 1) ∧ (if b < 0 then (-1 : Int) else 1) < 2 ^ 64 := by split <;> omega
    refine ss_set 3 scRat.nd (ev_cal G hr (a, b) (es_cons (ev 0) (es_cons (ev 1) es_nil)) trivial) ?_
    have cd : ∀ x, CDivW x (gcdI a b) := fun x => ⟨(sm_gcd (a := a) hz).1, (sm_gcd (a := a) hz).2⟩
    refine ss_ret (ev_tup2 (ev_fdivW (ev_mul (ev 2) (ev 0) (.inl hs)) (ev 3) (cd _)) (ev_fdivW (ev_mul (ev 2) (ev 1) (.inl hs)) (ev 3) (cd _))) ?_
    exact ratio_pair hz.1 rfl
abbrev sRal : Stmt := topS 30
theorem scRal : FnScope ["top", "bottom", "shared"] ["top", "bottom"] (defScope sRal) := ⟨rfl, rfl, rfl, by decide +kernel, rfl, by decide +kernel, by decide +kernel⟩
theorem gcdI_neg {a b : Int} : gcdI (-a) (-b) = gcdI a b := by
  unfold gcdI
  rw [Int.neg_gcd, Int.gcd_neg]
theorem D_ratiol (F : Fn0 K mg "_law_ratio" sRal []) (B : Bt mg) (G : T_gcd P w K mg base "_law_divisor") : T_ratio P w K mg base "_law_ratio" := by
  refine F.df scRal (fun _ => rfl) (by decide) (fun _ _ _ _ _ _ us hl => match us, hl with | [_, _], _ => rfl) fun ⟨a, b⟩ hz f cdv A outer s H E hr => ?_
  replace hz : Sm b := hz
  show SS _ _ [.v rInt a, .v rInt b, .un] (outR rRt (ofR (frac a b)))
  refine ss_ifJ [.v rInt ((if b < 0 then -1 else 1) * a), .v rInt ((if b < 0 then -1 else 1) * b), .un] (eb_lt (ev 1) ev_int) (fun h => ?_) (fun h => ?_) ?_
  · refine ss_set 0 scRal.nd (ev_neg (ev 0)) ?_
    refine ss_set 1 scRal.nd (ev_neg (ev 1)) (ss_nil ?_)
    rw [if_pos (of_decide_eq_true h), Int.neg_one_mul, Int.neg_one_mul]
    exact ⟨.inr rfl, .inr rfl, .inr rfl, trivial⟩
  · refine ss_nil ?_
    rw [if_neg (of_decide_eq_false h), Int.one_mul, Int.one_mul]
    exact ⟨.inr rfl, .inr rfl, .inr rfl, trivial⟩
  · have hg : gcdI ((if b < 0 then -1 else 1) * a) ((if b < 0 then -1 else 1) * b) = gcdI a b := by
      split
      · rw [Int.neg_one_mul, Int.neg_one_mul, gcdI_neg]
      · rw [Int.one_mul, Int.one_mul]
    refine ss_set 2 scRal.nd (x := gcdI a b) (ev_cal G hr (_, _) (es_cons (ev 0) (es_cons (ev 1) es_nil)) trivial hg) ?_
    have cd : ∀ x, CDivW x (gcdI a b) := fun x => ⟨(sm_gcd (a := a) hz).1, (sm_gcd (a := a) hz).2⟩
    refine ss_ret (ev_tup2 (ev_fdivW (ev 0) (ev 2) (cd _)) (ev_fdivW (ev 1) (ev 2) (cd _))) ?_
    exact ratio_pair hz.1 rfl
end
end Q

set_option Elab.async false
set_option linter.all false
set_option maxRecDepth 100000
set_option maxHeartbeats 4000000
namespace Q
open PySem PySem.Spec PyProof.Rows L2 Z
open PySem.W (dataLt dataLt_pair dataLt_int dataLt_str alike)
/-- an example: a question and an answer -/
abbrev Kd := Int × List Nat
abbrev Bag := List Kd
abbrev rKd : Rp Kd := r2 rInt rTx
abbrev dKd : Dt rKd := d2 dInt dTx
abbrev nKd : Nk Kd := nk2 nkI nkT
abbrev nBg : Nk Bag := nkS nKd
abbrev nVw : Nk (Bag × Int) := nk2 nBg nkI
theorem leK (x y : Kd) : leD dKd x y = decide (x.1 < y.1 ∨ (x.1 = y.1 ∧ x.2 ≤ y.2)) := by
  rw [leD_eq]
  show (!dataLt (.tuple [.int y.1, .str (tx y.2)]) (.tuple [.int x.1, .str (tx x.2)])) = _
  rw [dataLt_pair (by simp [alike]) (by simp [alike]), dataLt_int, dataLt_str, tx_toList, tx_toList]
  by_cases h : y.1 = x.1
  · have e1 : PyData.eqv (.int y.1) (.int x.1) = true := by simp [PyData.eqv, h]
    rw [if_pos e1]
    by_cases h2 : y.2 = x.2
    · have e2 : PyData.eqv (.str (tx y.2)) (.str (tx x.2)) = true := by simp [PyData.eqv, h2]
      rw [if_pos e2]
      have : x.2 ≤ y.2 := by rw [h2]; exact List.le_refl _
      simp [h, this]
    · have e2 : ¬ PyData.eqv (.str (tx y.2)) (.str (tx x.2)) = true := by
        simp only [PyData.eqv, beq_iff_eq]
        exact fun e => h2 (tx_inj e)
      rw [if_neg e2]
      by_cases h3 : y.2 < x.2
      · have : ¬ x.2 ≤ y.2 := fun z => List.not_lt.mpr z h3
        simp [h, h3, this]
      · have : x.2 ≤ y.2 := List.not_lt.mp h3
        simp [h, h3, this]
  · have e1 : ¬ PyData.eqv (.int y.1) (.int x.1) = true := by simp [PyData.eqv, h]
    rw [if_neg e1]
    by_cases h2 : y.1 < x.1
    · have h3 : ¬ (x.1 < y.1 ∨ (x.1 = y.1 ∧ x.2 ≤ y.2)) := by
        rintro (z | ⟨z, _⟩)
        · omega
        · omega
      rw [decide_eq_true h2, decide_eq_false h3]
      rfl
    · have h3 : x.1 < y.1 ∨ (x.1 = y.1 ∧ x.2 ≤ y.2) := .inl (by omega)
      rw [decide_eq_false h2, decide_eq_true h3]
      rfl
theorem leK_anti {x y : Kd} (h1 : leD dKd x y = true) (h2 : leD dKd y x = true) : x = y := by
  rw [leK, decide_eq_true_iff] at h1 h2
  rcases h1 with h1 | ⟨h1, h3⟩
  · rcases h2 with h2 | ⟨h2, _⟩ <;> omega
  · rcases h2 with h2 | ⟨_, h4⟩
    · omega
    · exact Prod.ext h1 (List.le_antisymm h3 h4)
/-- in order -/
abbrev SrK (E : Bag) : Prop := E.Pairwise fun x y => leD dKd x y = true
def kindsM (ans : List Nat) (width : Nat) : List Kd := (rng 0 width).flatMap fun q => (ans.map fun ch => [ch]).map fun a => (q, a)
def viewM (E : Bag) (i : Nat) : Bag × Int × List Nat := (E.take i ++ E.drop (i + 1), (E.getD i (0, [])).1, (E.getD i (0, [])).2)
end Q

set_option Elab.async false
set_option linter.all false
set_option maxRecDepth 100000
set_option maxHeartbeats 4000000
namespace Q
open PySem PySem.Spec PyProof.Rows L2 Z
/-! ### sources -/
/-- bags as a source takes them -/
structure GB (ans : List Nat) (width p : Nat) (bags : List (Int × Bag)) : Prop where
  isa : isAns ans = true
  w1 : 1 ≤ width
  w6 : width ≤ 6
  p1 : 1 ≤ p
  p4 : p ≤ 4
  pos : 0 < bags.length
  le : bags.length ≤ 10000
  wt : ∀ b ∈ bags, 1 ≤ b.1 ∧ b.1 < 2 ^ 200
  len : ∀ b ∈ bags, b.2.length = p
  mem : ∀ b ∈ bags, ∀ x ∈ b.2, x ∈ kindsM ans width
  so : ∀ b ∈ bags, SrK b.2
def gW (bags : List (Int × Bag)) : List (Bag × Int) := bags.foldl (fun d b => dput d b.2 ((dlook d b.2).getD 0 + b.1)) []
def gSh (bags : List (Int × Bag)) : Int := ((gW bags).map (·.2)).foldl (fun s x => gcdI s x) 0
def gathM (bags : List (Int × Bag)) : List (Int × Bag) := (srtD (dT dKd) ((gW bags).map (·.1))).map fun E => ((dlook (gW bags) E).getD 0 / gSh bags, E)
/-- the sum of the weights of a bag -/
def wOf (bags : List (Int × Bag)) (E : Bag) : Int := ((bags.filter fun b => decide (b.2 = E)).map (·.1)).sum
theorem gW_gen (bags : List (Int × Bag)) : ∀ d : List (Bag × Int), ∀ E, (dlook (bags.foldl (fun d b => dput d b.2 ((dlook d b.2).getD 0 + b.1)) d) E).getD 0 = (dlook d E).getD 0 + wOf bags E ∧
    ((dlook (bags.foldl (fun d b => dput d b.2 ((dlook d b.2).getD 0 + b.1)) d) E).isSome = ((dlook d E).isSome || decide (E ∈ bags.map (·.2)))) := by
  induction bags with
  | nil => intro d E; simp [wOf]
  | cons b bags ih =>
    intro d E
    obtain ⟨h1, h2⟩ := ih (dput d b.2 ((dlook d b.2).getD 0 + b.1)) E
    rw [List.foldl_cons, h1, h2, dlook_put]
    by_cases e : E = b.2
    · subst e
      rw [if_pos rfl]
      constructor
      · simp [wOf]
        omega
      · simp
    · rw [if_neg e]
      have e' : ¬ b.2 = E := fun z => e z.symm
      constructor
      · simp [wOf, e']
      · congr 1
        refine decide_eq_decide.mpr ?_
        rw [List.map_cons, List.mem_cons]
        exact ⟨.inr, fun h => h.resolve_left e⟩
theorem gW_get (bags : List (Int × Bag)) (E : Bag) : (dlook (gW bags) E).getD 0 = wOf bags E := by
  have := (gW_gen bags [] E).1
  simpa [gW, dlook_nil] using this
theorem gW_mem {bags : List (Int × Bag)} {E : Bag} : E ∈ (gW bags).map (·.1) ↔ E ∈ bags.map (·.2) := by
  rw [← dlook_isSome]
  have := (gW_gen bags [] E).2
  unfold gW
  rw [this]
  simp [dlook_nil]
theorem gW_nodup (bags : List (Int × Bag)) : ((gW bags).map (·.1)).Nodup := by
  have : ∀ (bags : List (Int × Bag)) (d : List (Bag × Int)), (d.map (·.1)).Nodup → ((bags.foldl (fun d b => dput d b.2 ((dlook d b.2).getD 0 + b.1)) d).map (·.1)).Nodup := by
    intro bags
    induction bags with
    | nil => intro d h; exact h
    | cons b bags ih => intro d h; exact ih _ (dput_nodup _ _ h)
  exact this bags [] List.nodup_nil
theorem gW_len (bags : List (Int × Bag)) : (gW bags).length ≤ bags.length := by
  have : ∀ (bags : List (Int × Bag)) (d : List (Bag × Int)), (bags.foldl (fun d b => dput d b.2 ((dlook d b.2).getD 0 + b.1)) d).length ≤ d.length + bags.length := by
    intro bags
    induction bags with
    | nil => intro d; simp
    | cons b bags ih =>
      intro d
      have h1 := ih (dput d b.2 ((dlook d b.2).getD 0 + b.1))
      have h2 := dput_len d b.2 ((dlook d b.2).getD 0 + b.1)
      simp only [List.foldl_cons, List.length_cons]
      omega
  simpa [gW] using this bags []
theorem dlook_of_mem {κ α : Type} [DecidableEq κ] {kvs : List (κ × α)} (nd : (kvs.map (·.1)).Nodup) {q : κ × α} (h : q ∈ kvs) : dlook kvs q.1 = some q.2 := by
  have hs : (dlook kvs q.1).isSome = true := dlook_isSome.mpr (List.mem_map_of_mem (f := fun t : κ × α => t.1) h)
  cases e : dlook kvs q.1 with
  | none => rw [e] at hs; cases hs
  | some y =>
    have := inj_of_nodup nd (dlook_mem e) h rfl
    rw [← this]
end Q

set_option Elab.async false
set_option linter.all false
set_option maxRecDepth 100000
set_option maxHeartbeats 4000000
namespace Q
open PySem PySem.Spec PyProof.Rows L2 Z
section
variable (P : Program) (w : World) (K : PySem.W.Frag) (mg : Str → Option Value) (base : Heap)
abbrev T_isAns : Prop := Df P w K mg base 1 "is_answers" (fun l : List Nat => [.v rTx l]) (fun l => isAns l = true) (fun _ => rBool) (fun _ => true)
abbrev T_kinds_of : Prop := Df P w K mg base 1 "kinds_of" (fun a : List Nat × Nat => [.v rTx a.1, .v rInt (a.2 : Int)]) (fun a => a.1.length ≤ 1000 ∧ a.2 ≤ 1000) (fun _ => rT rKd) (fun a => kindsM a.1 a.2)
abbrev T_view_of : Prop := Df P w K mg base 1 "view_of" (fun a : Bag × Nat => [.v (rT rKd) a.1, .v rInt (a.2 : Int)]) (fun a => a.2 < a.1.length ∧ a.1.length ≤ 1000) (fun _ => r3 (rT rKd) rInt rTx) (fun a => viewM a.1 a.2)
abbrev T_isWt : Prop := Df P w K mg base 1 "is_weight" (fun a : Int => [.v rInt a]) (fun _ => True) (fun _ => rBool) (fun a => decide (1 ≤ a))
end
section
variable {P : Program} {w : World} {K : PySem.W.Frag} {mg : Str → Option Value} {base : Heap}
/-! ### is_answers -/
abbrev sIsAns : Stmt := topS 8
theorem scIsAns : FnScope ["answers", "index"] ["answers"] (defScope sIsAns) := ⟨rfl, rfl, rfl, by decide +kernel, rfl, by decide +kernel, by decide +kernel⟩
theorem D_is_answers (F : Fn0 K mg "is_answers" sIsAns []) (B : Bt mg) : T_isAns P w K mg base := by
  refine F.df scIsAns (fun _ => rfl) (by decide) (fun _ _ _ _ _ _ us hl => match us, hl with | [_], _ => rfl) fun l hl f cdv A outer s H E hr => ?_
  obtain ⟨⟨h2, h4⟩, hc, hp⟩ := isAns_iff hl
  refine ss_if (EW.eb (ew_or (eb_lt (ev_lenS B.len (ev 0) (by omega)) ev_int) fun _ => ew_or1 (eb_gt (ev_lenS B.len (ev 0) (by omega)) ev_int))) (fun h => ?_) (fun _ => ?_)
  · exfalso
    simp at h
    omega
  · refine ss_nil ?_
    refine ss_forF (fun (s : Unit) (x : Int) => ()) () (fun _ => [.v rTx l, .un]) (fun _ _ => True) (it_range l.length B.range (ev_lenS B.len (ev 0) (by omega)) rfl (by omega)) (gz_name 1 scIsAns.nd) ⟨.inr rfl, .inr rfl, trivial⟩ trivial (fun _ _ _ _ _ => trivial) (fun i x _ hx _ => ?_) (fun _ => ?_)
    · obtain ⟨hi, rfl⟩ := rng_get.mp hx
      have hci := hc l[i] (List.getElem_mem hi)
      refine ss_if (EW.eb (ew_or (eb_ltT (ev_ixS (ev 0) (ev 1) (atI_nat' (n := i) (by omega) (List.getElem?_eq_getElem hi)) (by omega)) (ev_str [97])) fun _ => ew_or1 (eb_gtT (ev_ixS (ev 0) (ev 1) (atI_nat' (n := i) (by omega) (List.getElem?_eq_getElem hi)) (by omega)) (ev_str [122])))) (fun h => ?_) (fun _ => ?_)
      · exfalso
        rw [lt1, lt1] at h
        simp at h
        omega
      · refine ss_nil ?_
        refine ss_if (EW.eb (ew_and (eb_gt (ev 1) ev_int) fun h => ew_and1 (eb_geT (ev_ixS (ev 0) (ev_sub (ev 1) ev_int) (atI_nat' (n := i - 1) (by simp at h; omega) (getD_some 0 (by omega))) (by omega)) (ev_ixS (ev 0) (ev 1) (atI_nat' (n := i) (by omega) (List.getElem?_eq_getElem hi)) (by omega))))) (fun h => ?_) (fun _ => ?_)
        · exfalso
          rw [lt1] at h
          simp at h
          rw [List.getElem?_eq_getElem (show i - 1 < l.length by omega)] at h
          simp at h
          have := List.pairwise_iff_getElem.mp hp (i - 1) i (by omega) hi (by omega)
          omega
        · refine ss_nil ?_
          refine ss_nil ?_
          exact ⟨.inr rfl, .inl rfl, trivial⟩
    · exact ss_ret ev_bl rfl
/-! ### kinds_of -/
abbrev sKin : Stmt := topS 10
theorem scKin : FnScope ["answers", "width", "question", "answer"] ["answers", "width"] (defScope sKin) := ⟨rfl, rfl, rfl, by decide +kernel, rfl, by decide +kernel, by decide +kernel⟩
theorem kindsM_len (ans : List Nat) (n : Nat) : (kindsM ans n).length = n * ans.length := by
  unfold kindsM
  have : ∀ xs : List Int, (xs.flatMap fun q => (ans.map fun ch => [ch]).map fun a => ((q, a) : Kd)).length = xs.length * ans.length := by
    intro xs
    induction xs with
    | nil => simp
    | cons x xs ih =>
      rw [List.flatMap_cons, List.length_append, ih, List.length_map, List.length_map, List.length_cons, Nat.succ_mul]
      omega
  rw [this, rng_len]
theorem D_kinds_of (F : Fn0 K mg "kinds_of" sKin []) (B : Bt mg) : T_kinds_of P w K mg base := by
  refine F.df scKin (fun _ => rfl) (by decide) (fun _ _ _ _ _ _ us hl => match us, hl with | [_, _], _ => rfl) fun ⟨ans, n⟩ hz f cdv A outer s H E hr => ?_
  obtain ⟨h1, h2⟩ := hz
  dsimp only at h1 h2
  show SS _ _ [.v rTx ans, .v rInt (n : Int), .un, .un] (outR (rT rKd) (kindsM ans n))
  refine ss_ret (ev_tupL B.tuple (EL.of (EO.fz (eo_lc2 (ws1 := [3]) (fun _ : Int => ans.map fun ch => [ch]) (fun q a => ((q, a) : Kd)) scKin.nd (it_range n B.range (ev 1) rfl (by omega)) (own := [("question", 2), ("answer", 3)]) (blkOk_by (by kernel_rfl)) (by decide) (fun _ _ _ _ _ => gz_name 2 scKin.nd) (gc_name 2) (by decide) (fun _ _ _ _ _ q hq => it_S (l := ans) (ev 0)) (fun _ _ _ _ _ => gz_name 3 scKin.nd) (by decide) (fun _ _ _ _ _ q a hq ha => ev_tup2 (ev 2) (ev 3)) ?_)))) rfl
  have := kindsM_len ans n
  unfold kindsM at this
  rw [this]
  exact Nat.le_trans (Nat.mul_le_mul h2 h1) (by decide)
/-! ### view_of -/
abbrev sVie : Stmt := topS 11
theorem scVie : FnScope ["examples", "index", "question", "answer"] ["examples", "index"] (defScope sVie) := ⟨rfl, rfl, rfl, by decide +kernel, rfl, by decide +kernel, by decide +kernel⟩
theorem D_view_of (F : Fn0 K mg "view_of" sVie []) : T_view_of P w K mg base := by
  refine F.df scVie (fun _ => rfl) (by decide) (fun _ _ _ _ _ _ us hl => match us, hl with | [_, _], _ => rfl) fun ⟨E0, i⟩ hz f cdv A outer s H E hr => ?_
  obtain ⟨h1, h2⟩ := hz
  dsimp only at h1 h2
  show SS _ _ [.v (rT rKd) E0, .v rInt (i : Int), .un, .un] (outR (r3 (rT rKd) rInt rTx) (viewM E0 i))
  refine ss_asg (gz_tup2 rfl (gz_name 2 scVie.nd) (gz_name 3 scVie.nd)) (ev_ixT (ev 0) (ev 1) (atI_nat (getD_some (0, []) h1))) ?_
  refine ss_ret (ev_tup3 (ev_catT (ev_cutT (ev 0) so_none (so i (ev 1))) (ev_cutT (ev 0) (so (i + 1) (ev_add (ev 1) ev_int)) so_none) (by simp; omega)) (ev 2) (ev 3)) ?_
  show _ = viewM E0 i
  simp [viewM]
/-! ### is_weight -/
abbrev sWt : Stmt := topS 20
theorem scWt : FnScope ["value"] ["value"] (defScope sWt) := ⟨rfl, rfl, rfl, by decide +kernel, rfl, by decide +kernel, by decide +kernel⟩
theorem D_is_weight (F : Fn0 K mg "is_weight" sWt []) (B : Bt mg) : T_isWt P w K mg base := by
  refine F.df scWt (fun _ => rfl) (by decide) (fun _ _ _ _ _ _ us hl => match us, hl with | [_], _ => rfl) fun v _ f cdv A outer s H E hr => ?_
  show SS _ _ [.v rInt v] (outR rBool (decide (1 ≤ v)))
  refine ss_ret (ev_and (ev_isi "int" (k := true) tyInt B.isin (ev 0) B.int) fun _ => ev_and (ev_not (ev_isi "bool" (k := false) tyInt B.isin (ev 0) B.bool)) fun _ => ev_one (ev_ge (ev 0) ev_int)) rfl
end
end Q

set_option Elab.async false
set_option linter.all false
set_option maxRecDepth 100000
set_option maxHeartbeats 4000000
namespace Q
open PySem PySem.Spec PyProof.Rows L2 Z
theorem gcd_fold {xs : List Int} : ∀ {s : Int}, xs ≠ [] → (∀ x ∈ xs, 1 ≤ x ∧ x < 2 ^ 220) → 1 ≤ xs.foldl (fun s x => gcdI s x) s ∧ xs.foldl (fun s x => gcdI s x) s < 2 ^ 220 := by
  induction xs with
  | nil => intro s h; exact absurd rfl h
  | cons x xs ih =>
    intro s _ h
    have hx := h x (List.mem_cons_self ..)
    by_cases e : xs = []
    · subst e
      have h1 := gcdI_pos (a := s) (show x ≠ 0 by omega)
      have h2 : gcdI s x ≤ x := by
        unfold gcdI
        have := Nat.le_of_dvd (show 0 < x.natAbs by omega) (Int.gcd_dvd_natAbs_right s x)
        omega
      show 1 ≤ gcdI s x ∧ gcdI s x < 2 ^ 220
      omega
    · exact ih e fun y hy => h y (List.mem_cons_of_mem _ hy)
theorem wOf_bound {bags : List (Int × Bag)} (h : ∀ b ∈ bags, 1 ≤ b.1 ∧ b.1 < 2 ^ 200) (E : Bag) : 0 ≤ wOf bags E ∧ wOf bags E ≤ bags.length * 2 ^ 200 ∧ (E ∈ bags.map (·.2) → 1 ≤ wOf bags E) := by
  induction bags with
  | nil => exact ⟨by simp [wOf], by simp [wOf], fun h => by cases h⟩
  | cons b bags ih =>
    obtain ⟨h1, h2, h3⟩ := ih fun c hc => h c (List.mem_cons_of_mem _ hc)
    have hb := h b (List.mem_cons_self ..)
    have hz : ((b :: bags).length : Int) * 2 ^ 200 = (bags.length : Int) * 2 ^ 200 + 2 ^ 200 := by
      rw [List.length_cons]
      omega
    by_cases e : b.2 = E
    · have : wOf (b :: bags) E = b.1 + wOf bags E := by simp [wOf, e]
      rw [this, hz]
      exact ⟨by omega, by omega, fun _ => by omega⟩
    · have : wOf (b :: bags) E = wOf bags E := by simp [wOf, e]
      rw [this, hz]
      refine ⟨h1, by omega, fun hm => h3 ?_⟩
      rw [List.map_cons] at hm
      rcases List.mem_cons.mp hm with z | z
      · exact absurd z.symm e
      · exact z
section
variable (P : Program) (w : World) (K : PySem.W.Frag) (mg : Str → Option Value) (base : Heap)
abbrev rWB : Rp (Int × Bag) := r2 rInt (rT rKd)
abbrev T_isBag : Prop := Df P w K mg base 2 "is_example_bag" (fun a : List Nat × Nat × Bag => [.v rTx a.1, .v rInt (a.2.1 : Int), .v (rT rKd) a.2.2]) (fun a => a.1.length ≤ 100 ∧ a.2.1 ≤ 100 ∧ a.2.2.length ≤ 100 ∧ (∀ x ∈ a.2.2, x ∈ kindsM a.1 a.2.1) ∧ SrK a.2.2) (fun _ => rBool) (fun _ => true)
abbrev T_check : Prop := Df P w K mg base 3 "check_bags" (fun a : List Nat × Nat × Nat × List (Int × Bag) => [.v rTx a.1, .v rInt (a.2.1 : Int), .v (rT rWB) a.2.2.2]) (fun a => GB a.1 a.2.1 a.2.2.1 a.2.2.2) (fun _ => rNon) (fun _ => ())
abbrev T_gath : Prop := Df P w K mg base 2 "gathered" (fun a : List (Int × Bag) => [.v (rT rWB) a]) (fun a => 0 < a.length ∧ a.length ≤ 10000 ∧ (∀ b ∈ a, 1 ≤ b.1 ∧ b.1 < 2 ^ 200) ∧ ∀ b ∈ a, 0 < b.2.length) (fun _ => rT rWB) (fun a => gathM a)
end
section
variable {P : Program} {w : World} {K : PySem.W.Frag} {mg : Str → Option Value} {base : Heap}
abbrev sBag : Stmt := topS 21
theorem scBag : FnScope ["answers", "width", "examples", "kinds", "place"] ["answers", "width", "examples"] (defScope sBag) := ⟨rfl, rfl, rfl, by decide +kernel, rfl, by decide +kernel, by decide +kernel⟩
theorem al_kd : Al dKd := al2 alInt alTx
theorem pl_kd : ∀ x, (dKd.d x).plain = true := pl2 plInt plTx
theorem D_isBag (F : Fn0 K mg "is_example_bag" sBag []) (B : Bt mg) (G : T_kinds_of P w K mg base) : T_isBag P w K mg base := by
  refine F.df scBag (fun _ => rfl) (by decide) (fun _ _ _ _ _ _ us hl => match us, hl with | [_, _, _], _ => rfl) fun ⟨ans, n, E0⟩ hz f cdv A outer s H E hr => ?_
  obtain ⟨h1, h2, h3, h4, h5⟩ := hz
  dsimp only at h1 h2 h3 h4 h5
  show SS _ _ [.v rTx ans, .v rInt (n : Int), .v (rT rKd) E0, .un, .un] (outR rBool true)
  refine ss_set 3 scBag.nd (ev_cal G hr (ans, n) (es_cons (ev 0) (es_cons (ev 1) es_nil)) ⟨by show ans.length ≤ 1000; omega, by show n ≤ 1000; omega⟩) ?_
  refine ss_forF (fun (s : Unit) (x : Int) => ()) () (fun _ => [.v rTx ans, .v rInt (n : Int), .v (rT rKd) E0, .v (rT rKd) (kindsM ans n), .un]) (fun _ _ => True) (it_range E0.length B.range (ev_lenT B.len (ev 2)) rfl (by omega)) (gz_name 4 scBag.nd) ⟨.inr rfl, .inr rfl, .inr rfl, .inr rfl, .inr rfl, trivial⟩ trivial (fun _ _ _ _ _ => trivial) (fun i x _ hx _ => ?_) (fun _ => ss_ret ev_bl rfl)
  obtain ⟨hi, rfl⟩ := rng_get.mp hx
  rw [show ((0 : Int) + (i : Int)) = (i : Int) by omega]
  have hg : E0[i]? = some (E0.getD i (0, [])) := getD_some _ hi
  refine ss_if (eb_ninDT dKd pl_kd hr (ev_ixT (ev 2) (ev 4) (atI_nat hg)) (ev 3)) (fun h => ?_) (fun _ => ss_nil ?_)
  · exfalso
    have := h4 _ (List.mem_of_getElem? hg)
    simp [-List.getD_eq_getElem?_getD, this] at h
  refine ss_if (EW.eb (ew_and (eb_gt (ev 4) ev_int) fun h => ew_and1 (eb_gtD dKd al_kd hr (ev_ixT (ev 2) (ev_sub (ev 4) ev_int) (atI_nat' (n := i - 1) (by simp at h; omega) (getD_some (0, []) (by omega)))) (ev_ixT (ev 2) (ev 4) (atI_nat hg))))) (fun h => ?_) (fun _ => ss_nil (ss_nil ⟨.inr rfl, .inr rfl, .inr rfl, .inr rfl, .inl rfl, trivial⟩))
  exfalso
  simp only [Bool.and_eq_true, decide_eq_true_eq, Bool.not_eq_true'] at h
  have hi0 : i - 1 < i := by omega
  have := List.pairwise_iff_getElem.mp h5 (i - 1) i (by omega) hi hi0
  have h6 := h.2
  rw [List.getD_eq_getElem?_getD, List.getElem?_eq_getElem (show i - 1 < E0.length by omega), List.getD_eq_getElem?_getD, List.getElem?_eq_getElem hi] at h6
  simp only [Option.getD_some] at h6
  rw [this] at h6
  cases h6
/-! ### check_bags -/
abbrev sChk : Stmt := topS 22
theorem scChk : FnScope ["answers", "width", "bags", "index", "weight", "examples", "good"] ["answers", "width", "bags"] (defScope sChk) := ⟨rfl, rfl, rfl, by decide +kernel, rfl, by decide +kernel, by decide +kernel⟩
theorem D_check (F : Fn0 K mg "check_bags" sChk []) (B : Bt mg) (hme : ∃ t, mg "MOST_EXAMPLES" = some (.int 4 t)) (G1 : T_isWt P w K mg base) (G2 : T_isBag P w K mg base) : T_check P w K mg base := by
  refine F.dfn scChk (fun _ => rfl) (by decide) (fun _ _ _ _ _ _ us hl => match us, hl with | [_, _, _], _ => rfl) fun ⟨ans, n, p, bags⟩ hz f cdv A outer s H E hr => ?_
  replace hz : GB ans n p bags := hz
  obtain ⟨t1, hme⟩ := hme
  have ha := isAns_iff hz.isa
  have hw := hz.w6
  have hp := hz.p4
  have hp1 := hz.p1
  have hle := hz.le
  have hps := hz.pos
  have b0 : bags[0]? = some (bags.getD 0 (0, [])) := getD_some _ hz.pos
  have hb0 := hz.len _ (List.mem_of_getElem? b0)
  show SS _ _ [.v rTx ans, .v rInt (n : Int), .v (rT rWB) bags, .un, .un, .un, .un] outN
  refine ss_if (eb_eqI (ev_lenT B.len (ev 2)) ev_int) (fun h => ?_) (fun _ => ss_nil ?_)
  · exfalso
    simp at h
    subst h
    simp at hps
  refine ss_forF (fun (s : Unit) (x : Int) => ()) () (fun _ => [.v rTx ans, .v rInt (n : Int), .v (rT rWB) bags, .un, .un, .un, .un]) (fun _ _ => True) (it_range bags.length B.range (ev_lenT B.len (ev 2)) rfl (by omega)) (gz_name 3 scChk.nd) ⟨.inr rfl, .inr rfl, .inr rfl, .inr rfl, .inr rfl, .inr rfl, .inr rfl, trivial⟩ trivial (fun _ _ _ _ _ => trivial) (fun i x _ hx _ => ?_) (fun _ => ss_nil trivial)
  obtain ⟨hi, rfl⟩ := rng_get.mp hx
  rw [show ((0 : Int) + (i : Int)) = (i : Int) by omega]
  have hg : bags[i]? = some (bags.getD i (0, [])) := getD_some _ hi
  have hm := List.mem_of_getElem? hg
  have hl := hz.len _ hm
  have hwt := hz.wt _ hm
  refine ss_asg (gz_tup2 rfl (gz_name 4 scChk.nd) (gz_name 5 scChk.nd)) (ev_ixT (ev 2) (ev 3) (atI_nat hg)) ?_
  refine ss_set 6 scChk.nd (ev_and (ev_cal G1 (hr.mono (by decide)) _ (es_cons (ev 4) es_nil) trivial) fun _ => ev_one (ev_cal G2 hr (ans, n, (bags.getD i (0, [])).2) (es_cons (ev 0) (es_cons (ev 1) (es_cons (ev 5) es_nil))) ⟨by show ans.length ≤ 100; omega, by show n ≤ 100; omega, by show (bags.getD i (0, [])).2.length ≤ 100; omega, hz.mem _ hm, hz.so _ hm⟩)) ?_
  refine ss_if (EW.eb (ew_or (eb_not (EB.of (ev 6))) fun _ => ew_or (eb_lt (ev_lenT B.len (ev 5)) ev_int) fun _ => ew_or (eb_gt (ev_lenT B.len (ev 5)) (ev_glob (v := .int 4) hme ⟨_, rfl⟩ (fun _ => rfl))) fun _ => ew_or1 (eb_neI (ev_lenT B.len (ev 5)) (ev_lenT B.len (ev_snd2 (ev_ixT (ev 2) ev_int (atI_nat' (n := 0) rfl b0))))))) (fun h => ?_) (fun _ => ss_nil (ss_nil ⟨.inr rfl, .inr rfl, .inr rfl, .inl rfl, .inl rfl, .inl rfl, .inl rfl, trivial⟩))
  exfalso
  simp only [Bool.or_eq_true, Bool.not_eq_true', Bool.and_eq_false_iff, decide_eq_true_eq, decide_eq_false_iff_not] at h
  rcases h with h | h | h | h
  · rcases h with h | h
    · exact h hwt.1
    · cases h
  · omega
  · omega
  · exact h (by rw [hl]; exact congrArg (fun n : Nat => (n : Int)) hb0.symm)
/-! ### gathered -/
abbrev sGat : Stmt := topS 23
theorem scGat : FnScope ["bags", "weights", "weight", "examples", "shared"] ["bags"] (defScope sGat) := ⟨rfl, rfl, rfl, by decide +kernel, rfl, by decide +kernel, by decide +kernel⟩
theorem D_gath (F : Fn0 K mg "gathered" sGat []) (B : Bt mg) (G : T_gcd P w K mg base "common_divisor") : T_gath P w K mg base := by
  refine F.df scGat (fun _ => rfl) (by decide) (fun _ _ _ _ _ _ us hl => match us, hl with | [_], _ => rfl) fun bags hz f cdv A outer s H E hr => ?_
  obtain ⟨h0, h1, h2, h3⟩ := hz
  show SS _ _ [.v (rT rWB) bags, .un, .un, .un, .un] (outR (rT rWB) (gathM bags))
  refine ss_dictN (N := nBg) (c := rInt) 1 scGat.nd fun l => ?_
  refine ss_forF (fun (d : List (Bag × Int)) (b : Int × Bag) => dput d b.2 ((dlook d b.2).getD 0 + b.1)) [] (fun d => [.v (rT rWB) bags, sN P w l nBg rInt d, .un, .un, .un]) (fun i d => d.length ≤ i) (it_T (ev 0)) (gz_tup2 rfl (gz_name 2 scGat.nd) (gz_name 3 scGat.nd)) ⟨.inr rfl, .inr rfl, .inr rfl, .inr rfl, .inr rfl, trivial⟩ (Nat.zero_le _) (fun i b d hx hd => ?_) (fun i b d hx hd => ?_) (fun hd => ?_)
  · have := dput_len d b.2 ((dlook d b.2).getD 0 + b.1)
    omega
  · have hi := (List.getElem?_eq_some_iff.mp hx).1
    refine ss_putN (N := nBg) (c := rInt) 1 hr (ev_add (ev_getOrN (N := nBg) (c := rInt) hr (en 1) (ev 3) ev_int ⟨rfl, rfl, rfl, rfl⟩) (ev 2)) (ev 3) rfl (by omega) ?_
    exact ss_nil ⟨.inr rfl, .inr rfl, .inl rfl, .inl rfl, .inr rfl, trivial⟩
  · show SS _ _ [.v (rT rWB) bags, sN P w l nBg rInt (gW bags), .un, .un, .un] _
    refine ss_set 4 scGat.nd ev_int ?_
    refine ss_forF (fun (s : Int) x => gcdI s x) 0 (fun s => [.v (rT rWB) bags, sN P w l nBg rInt (gW bags), .un, .un, .v rInt s]) (fun _ _ => True) (it_L (EO.fz (eo_valsN (N := nBg) (c := rInt) rfl B.list (en 1)))) (gz_name 2 scGat.nd) ⟨.inr rfl, .inr rfl, .inr rfl, .inr rfl, .inr rfl, trivial⟩ trivial (fun _ _ _ _ _ => trivial) (fun i x s hx _ => ?_) (fun _ => ?_)
    · refine ss_set 4 scGat.nd (ev_cal G hr (s, x) (es_cons (ev 4) (es_cons (ev 2) es_nil)) trivial) ?_
      exact ss_nil ⟨.inr rfl, .inr rfl, .inl rfl, .inr rfl, .inr rfl, trivial⟩
    · have hne : (gW bags).map (·.2) ≠ [] := by
        intro e
        have hb : bags[0]? = some (bags.getD 0 (0, [])) := getD_some _ h0
        have := gW_mem.mpr (List.mem_map_of_mem (f := fun b : Int × Bag => b.2) (List.mem_of_getElem? hb))
        rw [List.map_eq_nil_iff.mp e] at this
        cases this
      have hval : ∀ x ∈ (gW bags).map (·.2), 1 ≤ x ∧ x < 2 ^ 220 := fun x hx => by
        obtain ⟨q, hq, rfl⟩ := List.mem_map.mp hx
        have e1 := dlook_of_mem (gW_nodup bags) hq
        have e2 := gW_get bags q.1
        rw [e1] at e2
        have e3 : q.2 = wOf bags q.1 := e2
        obtain ⟨b1, b2, b3⟩ := wOf_bound h2 q.1
        have b4 := b3 (gW_mem.mp (List.mem_map_of_mem (f := fun t : Bag × Int => t.1) hq))
        rw [e3]
        refine ⟨b4, ?_⟩
        have : (bags.length : Int) * 2 ^ 200 ≤ 10000 * 2 ^ 200 := Int.mul_le_mul_of_nonneg_right (by omega) (by decide)
        have : (10000 : Int) * 2 ^ 200 < 2 ^ 220 := by decide
        omega
      obtain ⟨g1, g2⟩ := gcd_fold (s := 0) hne hval
      have cd : ∀ x, CDivW x (gSh bags) := fun x => ⟨by show 0 < gSh bags; unfold gSh; omega, by
        have h5 : (gSh bags).natAbs ≠ 0 := by unfold gSh; omega
        have h6 : (gSh bags).natAbs < 2 ^ 220 := by unfold gSh; omega
        have := (Nat.log2_lt h5).mpr h6
        omega⟩
      show SS _ _ [.v (rT rWB) bags, sN P w l nBg rInt (gW bags), .un, .un, .v rInt (gSh bags)] _
      refine ss_ret (ev_tupL B.tuple (EL.of (EO.fz (eo_lc0 (fun E => ((dlook (gW bags) E).getD 0 / gSh bags, E)) scGat.nd (it_L (EO.fz (eo_sortD (dT dKd) (alT al_kd) hr B.sorted (EL.of (EO.fz (eo_listN (N := nBg) (c := rInt) rfl B.list (en 1)))) ?_))) (own := [("examples", 3)]) (blkOk_by (by kernel_rfl)) (fun _ _ _ _ _ => gz_name 3 scGat.nd) (by decide) (fun s H C cl fp E0 hE => ev_tup2 (ev_fdivW (ev_getN (N := nBg) (c := rInt) (x := (dlook (gW bags) E0).getD 0) hr (en 1) (ev 3) ?_) (ev 4) (cd _)) (ev 3)) ?_)))) rfl
      · refine .inl fun dd hd => ?_
        obtain ⟨E0, hE, rfl⟩ := List.mem_map.mp hd
        obtain ⟨b, hb, rfl⟩ := List.mem_map.mp (gW_mem.mp hE)
        have hl := h3 b hb
        cases e : b.2 with
        | nil => rw [e] at hl; simp at hl
        | cons x xs => exact ⟨_, _, rfl⟩
      · have hE2 : E0 ∈ (gW bags).map (·.1) := (srtD_perm _ _).mem_iff.mp hE
        have := dlook_isSome.mpr hE2
        cases e : dlook (gW bags) E0 with
        | none => rw [e] at this; cases this
        | some y => rfl
      · rw [(srtD_perm _ _).length_eq, List.length_map]
        have := gW_len bags
        omega
end
end Q

set_option Elab.async false
set_option linter.all false
set_option maxRecDepth 100000
set_option maxHeartbeats 4000000
namespace Q
open PySem PySem.Spec PyProof.Rows L2 Z
/-- a source: its answers, its width, its bags as gathered -/
abbrev Src := List Nat × Nat × List (Int × Bag)
def totM (bags : List (Int × Bag)) : Int := (bags.map (·.1)).sum
/-- the views' weights of gathered bags -/
def vwS (b : Int × Bag) (d : List ((Bag × Int) × Int)) (i : Int) : List ((Bag × Int) × Int) :=
  dput d ((viewM b.2 i.toNat).1, (viewM b.2 i.toNat).2.1) ((dlook d ((viewM b.2 i.toNat).1, (viewM b.2 i.toNat).2.1)).getD 0 + b.1)
def vwM (bags : List (Int × Bag)) : List ((Bag × Int) × Int) := bags.foldl (fun d b => (rng 0 b.2.length).foldl (vwS b) d) []
def cntM (E : Bag) (x : Kd) : Int := (E.countP fun y => decide (y = x) : Nat)
def worthM (bags : List (Int × Bag)) (p : Nat) (E : Bag) (i : Nat) : Int × Int :=
  ofR (frac ((dlook (vwM bags) ((viewM E i).1, (viewM E i).2.1)).getD 0) (totM bags * (p : Int) * cntM E (E.getD i (0, []))))
end Q

set_option Elab.async false
set_option linter.all false
set_option maxRecDepth 100000
set_option maxHeartbeats 4000000
namespace Q
open PySem PySem.Spec PyProof.Rows L2 Z
def srcF (a : Src) : List (Str × Fd) :=
  [("answers", fd rTx a.1), ("width", fd rInt (a.2.1 : Int)), ("bags", fd (rT rWB) a.2.2), ("places", fd rInt (((a.2.2.getD 0 (0, [])).2.length : Nat) : Int)), ("total", fd rInt (totM a.2.2))]
abbrev rSrc (K : PySem.W.Frag) : Rp Src := rIns (He.ga K "Source") srcF
structure CnS (K : PySem.W.Frag) (mg : Str → Option Value) : Prop where
  cls : Cls K (He.ga K "Source")
  mkr : Mk K (He.ga K "Source") (He.ma K (He.ga K "Source") "__init__")
  glo : mg "Source" = some (.ref (He.ga K "Source"))
  na1 : NoAttr K (He.ga K "Source") "answers"
  na2 : NoAttr K (He.ga K "Source") "width"
  na3 : NoAttr K (He.ga K "Source") "bags"
  na4 : NoAttr K (He.ga K "Source") "places"
  na5 : NoAttr K (He.ga K "Source") "total"
  mw : ∃ t, mg "MOST_WIDTH" = some (.int 6 t)
  me : ∃ t, mg "MOST_EXAMPLES" = some (.int 4 t)
section
variable (P : Program) (w : World) (K : PySem.W.Frag) (mg : Str → Option Value) (base : Heap)
abbrev T_Source : Prop := DfC P w K mg base 4 "Source" (He.ga K "Source") (fun a : List Nat × Nat × Nat × List (Int × Bag) => [.v rTx a.1, .v rInt (a.2.1 : Int), .v (rT rWB) a.2.2.2]) (fun a => GB a.1 a.2.1 a.2.2.1 a.2.2.2) (rSrc K) (fun a => (a.1, a.2.1, gathM a.2.2.2))
abbrev T_vw : Prop := Df P w K mg base 2 "view_weights" (fun a : Src => [.v (rSrc K) a]) (fun a => a.2.2.length ≤ 10000 ∧ ∀ b ∈ a.2.2, b.2.length ≤ 100) (fun _ => rND P w nVw rInt) (fun a => vwM a.2.2)
abbrev T_worth : Prop := Df P w K mg base 3 "worth_of" (fun a : Src × Bag × Nat => [.v (rSrc K) a.1, .v (rTd rKd) a.2.1, .v rInt (a.2.2 : Int)]) (fun a => a.1.2.2.length ≤ 10000 ∧ (∀ b ∈ a.1.2.2, b.2.length ≤ 100) ∧ a.2.2 < a.2.1.length ∧ a.2.1.length ≤ 1000 ∧ 0 < totM a.1.2.2 ∧ totM a.1.2.2 < 2 ^ 60 ∧ 0 < (a.1.2.2.getD 0 (0, [])).2.length) (fun _ => rRt) (fun a => worthM a.1.2.2 (a.1.2.2.getD 0 (0, [])).2.length a.2.1 a.2.2)
end
theorem gath_mem {bags : List (Int × Bag)} {b : Int × Bag} (h : b ∈ gathM bags) : b.2 ∈ bags.map (·.2) := by
  obtain ⟨E, hE, rfl⟩ := List.mem_map.mp h
  exact gW_mem.mp ((srtD_perm _ _).mem_iff.mp hE)
theorem gath_len (bags : List (Int × Bag)) : (gathM bags).length = (gW bags).length := by
  unfold gathM
  rw [List.length_map, (srtD_perm _ _).length_eq, List.length_map]
section
variable {P : Program} {w : World} {K : PySem.W.Frag} {mg : Str → Option Value} {base : Heap}
abbrev sSrc : Stmt := inClass (topS 24) 0
theorem scSrc : FnScope ["self", "answers", "width", "bags", "told", "weight", "_"] ["self", "answers", "width", "bags"] (defScope sSrc) := ⟨rfl, rfl, rfl, by decide +kernel, rfl, by decide +kernel, by decide +kernel⟩
theorem D_Source (M : Mt0 K (He.ga K "Source") "__init__" "Source.__init__" sSrc) (B : Bt mg) (C : CnS K mg) (G1 : T_isAns P w K mg base) (G2 : T_check P w K mg base) (G3 : T_gath P w K mg base) : T_Source P w K mg base := by
  obtain ⟨f, fd, F, hM⟩ := M.ex
  have hf : f = He.ma K (He.ga K "Source") "__init__" := by
    have h1 := hM.at_
    have h2 := C.mkr.init
    rw [h1] at h2
    exact Value.ref.inj (Option.some.inj (Option.some.inj h2))
  refine ⟨f, fd, ["self", "answers", "width", "bags"], F.mkz scSrc (fun _ => rfl) (by decide) (fun ⟨ans, n, p, bags⟩ g x cdv A outer s H E hr => ?_), C.glo, hf ▸ C.mkr, F.bindsN (fun _ _ _ _ _ _ us hl => match us, hl with | [_, _, _, _], _ => rfl)⟩
  replace g : GB ans n p bags := g
  obtain ⟨t1, hmw⟩ := C.mw
  have hw1 := g.w1
  have hw6 := g.w6
  have hp1 := g.p1
  have hps := g.pos
  have hle := g.le
  show SS _ _ [.oc x (He.ga K "Source") [], .v rTx ans, .v rInt (n : Int), .v (rT rWB) bags, .un, .un, .un] (outI x (He.ga K "Source") (srcF (ans, n, gathM bags)))
  refine ss_if (eb_not (eb_call G1 (hr.mono (by decide)) ans (es_cons (ev 1) es_nil) g.isa)) (fun h => absurd h (by decide)) (fun _ => ss_nil ?_)
  refine ss_if (EW.eb (ew_or (eb_lt (ev 2) ev_int) fun _ => ew_or1 (eb_gt (ev 2) (ev_glob (v := .int 6) hmw ⟨_, rfl⟩ (fun _ => rfl))))) (fun h => ?_) (fun _ => ss_nil ?_)
  · exfalso
    simp only [Bool.or_eq_true, decide_eq_true_eq] at h
    omega
  refine ss_ex (ev_cal G2 hr (ans, n, p, bags) (es_cons (ev 1) (es_cons (ev 2) (es_cons (ev 3) es_nil))) g) ?_
  refine ss_set 4 scSrc.nd (ev_cal G3 (hr.mono (by decide)) bags (es_cons (ev 3) es_nil) ⟨hps, hle, g.wt, fun b hb => by have := g.len b hb; omega⟩) ?_
  have hgl : 0 < (gathM bags).length := by
    rw [gath_len]
    have hb : bags[0]? = some (bags.getD 0 (0, [])) := getD_some _ hps
    have := gW_mem.mpr (List.mem_map_of_mem (f := fun b : Int × Bag => b.2) (List.mem_of_getElem? hb))
    have := List.length_pos_of_mem this
    rwa [List.length_map] at this
  have hgl2 : (gathM bags).length ≤ 10000 := by
    rw [gath_len]
    have := gW_len bags
    omega
  have hg0 : (gathM bags)[0]? = some ((gathM bags).getD 0 (0, [])) := getD_some _ hgl
  refine ss_fld 0 (ev 1) rfl C.cls C.na1 rfl (by simp) ?_
  refine ss_fld 0 (ev 2) rfl C.cls C.na2 rfl (by simp) ?_
  refine ss_fld 0 (ev 4) rfl C.cls C.na3 rfl (by simp) ?_
  refine ss_fld 0 (ev_lenT B.len (ev_snd2 (ev_ixT (ev 4) ev_int (atI_nat' (n := 0) rfl hg0)))) rfl C.cls C.na4 rfl (by simp) ?_
  refine ss_fld 0 (ev_sum rfl B.sum (EL.of (EO.fz (eo_lc0 (fun b : Int × Bag => b.1) scSrc.nd (it_T (ev 4)) (own := [("weight", 5), ("_", 6)]) (blkOk_by (by kernel_rfl)) (fun _ _ _ _ _ => gz_tup2 rfl (gz_name 5 scSrc.nd) (gz_name 6 scSrc.nd)) (by decide) (fun s H C cl fp b hb => ev 5) (by omega))))) rfl C.cls C.na5 rfl (by simp) ?_
  exact ss_nil rfl
/-! ### view_weights -/
abbrev sVw : Stmt := topS 16
theorem scVw : FnScope ["source", "weights", "weight", "examples", "index", "rest", "question", "_"] ["source"] (defScope sVw) := ⟨rfl, rfl, rfl, by decide +kernel, rfl, by decide +kernel, by decide +kernel⟩
theorem vw_len (b : Int × Bag) : ∀ (xs : List Int) (d : List ((Bag × Int) × Int)), (xs.foldl (vwS b) d).length ≤ d.length + xs.length := by
  intro xs
  induction xs with
  | nil => intro d; simp
  | cons x xs ih =>
    intro d
    have h1 := ih (vwS b d x)
    have h2 := dput_len d ((viewM b.2 x.toNat).1, (viewM b.2 x.toNat).2.1) ((dlook d ((viewM b.2 x.toNat).1, (viewM b.2 x.toNat).2.1)).getD 0 + b.1)
    simp only [List.foldl_cons, List.length_cons]
    unfold vwS at h1 ⊢
    omega
theorem D_vw (F : Fn0 K mg "view_weights" sVw []) (B : Bt mg) (C : CnS K mg) (G : T_view_of P w K mg base) : T_vw P w K mg base := by
  refine F.df scVw (fun _ => rfl) (by decide) (fun _ _ _ _ _ _ us hl => match us, hl with | [_], _ => rfl) fun ⟨ans, n, bags⟩ hz f cdv A outer s H E hr => ?_
  obtain ⟨h1, h2⟩ := hz
  dsimp only at h1 h2
  show SS _ _ [.v (rSrc K) (ans, n, bags), .un, .un, .un, .un, .un, .un, .un] (outR (rND P w nVw rInt) (vwM bags))
  refine ss_dictN (N := nVw) (c := rInt) 1 scVw.nd fun l => ?_
  refine ss_forF (fun d (b : Int × Bag) => (rng 0 b.2.length).foldl (vwS b) d) [] (fun d => [.v (rSrc K) (ans, n, bags), sN P w l nVw rInt d, .un, .un, .un, .un, .un, .un]) (fun i d => d.length ≤ i * 100) (it_T (ev_fld (ev 0) C.cls C.na3 rfl)) (gz_tup2 rfl (gz_name 2 scVw.nd) (gz_name 3 scVw.nd)) ⟨.inr rfl, .inr rfl, .inr rfl, .inr rfl, .inr rfl, .inr rfl, .inr rfl, .inr rfl, trivial⟩ (Nat.zero_le _) (fun i b d hx hd => ?_) (fun i b d hx hd => ?_) (fun _ => ss_fzN 1 rfl (ss_ret (ev 1) rfl))
  · have h3 := vw_len b (rng 0 b.2.length) d
    rw [rng_len] at h3
    have := h2 b (List.mem_of_getElem? hx)
    omega
  · have hi : i < bags.length := (List.getElem?_eq_some_iff.mp hx).1
    have hb := h2 b (List.mem_of_getElem? hx)
    refine ss_forF (vwS b) d (fun d => [.v (rSrc K) (ans, n, bags), sN P w l nVw rInt d, .v rInt b.1, .v (rT rKd) b.2, .un, .un, .un, .un]) (fun j d => d.length ≤ i * 100 + j) (it_range b.2.length B.range (ev_lenT B.len (ev 3)) rfl (by omega)) (gz_name 4 scVw.nd) ⟨.inr rfl, .inr rfl, .inr rfl, .inr rfl, .inr rfl, .inr rfl, .inr rfl, .inr rfl, trivial⟩ hd (fun j x d hy hj => ?_) (fun j x d hy hj => ?_) (fun _ => ss_nil ⟨.inr rfl, .inr rfl, .inl rfl, .inl rfl, .inr rfl, .inr rfl, .inr rfl, .inr rfl, trivial⟩)
    · have := dput_len d ((viewM b.2 x.toNat).1, (viewM b.2 x.toNat).2.1) ((dlook d ((viewM b.2 x.toNat).1, (viewM b.2 x.toNat).2.1)).getD 0 + b.1)
      unfold vwS
      omega
    · obtain ⟨hj2, rfl⟩ := rng_get.mp hy
      rw [show ((0 : Int) + (j : Int)) = (j : Int) by omega]
      refine ss_asg (gz_tup3 rfl (gz_name 5 scVw.nd) (gz_name 6 scVw.nd) (gz_name 7 scVw.nd)) (ev_cal G hr (b.2, j) (es_cons (ev 3) (es_cons (ev 4) es_nil)) ⟨hj2, by show b.2.length ≤ 1000; omega⟩) ?_
      refine ss_putN (N := nVw) (c := rInt) 1 hr (ev_add (ev_getOrN (N := nVw) (c := rInt) hr (en 1) (ev_tup2 (ev 5) (ev 6)) ev_int ⟨rfl, rfl, rfl, rfl⟩) (ev 2)) (ev_tup2 (ev 5) (ev 6)) rfl (by omega) ?_
      refine ss_nil ?_
      unfold vwS
      rw [Int.toNat_natCast]
      exact ⟨.inr rfl, .inr rfl, .inr rfl, .inr rfl, .inl rfl, .inl rfl, .inl rfl, .inl rfl, trivial⟩
/-! ### worth_of -/
abbrev sWo : Stmt := topS 17
theorem scWo : FnScope ["source", "examples", "index", "rest", "question", "_", "weight"] ["source", "examples", "index"] (defScope sWo) := ⟨rfl, rfl, rfl, by decide +kernel, rfl, by decide +kernel, by decide +kernel⟩
theorem D_worth (F : Fn0 K mg "worth_of" sWo []) (B : Bt mg) (C : CnS K mg) (G1 : T_view_of P w K mg base) (G2 : T_vw P w K mg base) (G3 : T_ratio P w K mg base "ratio") : T_worth P w K mg base := by
  refine F.df scWo (fun _ => rfl) (by decide) (fun _ _ _ _ _ _ us hl => match us, hl with | [_, _, _], _ => rfl) fun ⟨⟨ans, n, bags⟩, E0, i⟩ hz f cdv A outer s H E hr => ?_
  obtain ⟨h1, h2, h3, h4, h5, h6, h7⟩ := hz
  dsimp only at h1 h2 h3 h4 h5 h6 h7
  have hp100 : (bags.getD 0 (0, [])).2.length ≤ 100 := by
    by_cases c : 0 < bags.length
    · exact h2 _ (List.mem_of_getElem? (getD_some _ c))
    · have : bags = [] := List.eq_nil_of_length_eq_zero (by omega)
      subst this
      simp
  show SS _ _ [.v (rSrc K) (ans, n, bags), .v (rTd rKd) E0, .v rInt (i : Int), .un, .un, .un, .un] (outR rRt (worthM bags (bags.getD 0 (0, [])).2.length E0 i))
  generalize hp : (bags.getD 0 (0, [])).2.length = p at *
  have hg : E0[i]? = some (E0.getD i (0, [])) := getD_some _ h3
  have hc1 : 1 ≤ cntM E0 (E0.getD i (0, [])) ∧ cntM E0 (E0.getD i (0, [])) ≤ 1000 := by
    unfold cntM
    have h8 : 0 < E0.countP fun y => decide (y = E0.getD i (0, [])) := List.countP_pos_iff.mpr ⟨_, List.mem_of_getElem? hg, decide_eq_true rfl⟩
    have h9 : (E0.countP fun y => decide (y = E0.getD i (0, []))) ≤ E0.length := List.countP_le_length
    omega
  refine ss_asg (gz_tup3 rfl (gz_name 3 scWo.nd) (gz_name 4 scWo.nd) (gz_name 5 scWo.nd)) (ev_cal G1 (hr.mono (by decide)) (E0, i) (es_cons (EV.td (ev 1)) (es_cons (ev 2) es_nil)) ⟨h3, h4⟩) ?_
  refine ss_set 6 scWo.nd (ev_getOrN (N := nVw) (c := rInt) hr (EN.of (ev_cal G2 hr (ans, n, bags) (es_cons (ev 0) es_nil) ⟨h1, h2⟩)) (ev_tup2 (ev 3) (ev 4)) ev_int ⟨rfl, rfl, rfl, rfl⟩) ?_
  have hb1 : 0 < totM bags * (p : Int) := Int.mul_pos h5 (by omega)
  have hb2 : totM bags * (p : Int) ≤ 2 ^ 60 * 100 := Int.mul_le_mul (by omega) (by omega) (by omega) (by decide)
  have hb3 : 0 < totM bags * (p : Int) * cntM E0 (E0.getD i (0, [])) := Int.mul_pos hb1 (by omega)
  have hb4 : totM bags * (p : Int) * cntM E0 (E0.getD i (0, [])) ≤ 2 ^ 60 * 100 * 1000 := Int.mul_le_mul hb2 hc1.2 (by omega) (by decide)
  have sm : Sm (totM bags * (p : Int) * cntM E0 (E0.getD i (0, []))) := by
    refine ⟨by omega, ?_⟩
    have : (2 : Int) ^ 60 * 100 * 1000 < 2 ^ 250 := by decide
    omega
  refine ss_ret (ev_cal G3 hr (_, totM bags * (p : Int) * cntM E0 (E0.getD i (0, []))) (es_cons (ev 6) (es_cons (ev_mul (ev_mul (ev_fld (ev 0) C.cls C.na5 rfl) (EV.cast (x' := (p : Int)) (ev_fld (ev 0) C.cls C.na4 rfl) (by show (((bags.getD 0 (0, [])).2.length : Nat) : Int) = p; rw [hp])) (.inr ⟨by omega, by omega⟩)) (ev_countT dKd pl_kd hr (ev 1) (EV.cast (ev_ixT (EV.td (ev 1)) (ev 2) (atI_nat hg)) rfl)) (.inr ⟨by show -(2 ^ 64) < cntM E0 (E0.getD i (0, [])); omega, by show cntM E0 (E0.getD i (0, [])) < 2 ^ 64; omega⟩)) es_nil)) sm) rfl
end
end Q

set_option Elab.async false
set_option linter.all false
set_option maxRecDepth 100000
set_option maxHeartbeats 4000000
namespace Q
open PySem PySem.Spec PyProof.Rows L2 Z
def lawCell (ns : List Int) (k : Nat) : Int :=
  if k < ns.length then ns.getD k 0 else ((ns.foldl (fun s c => (s * 31 + c % 1000003) % 1000003) 17 + 7) * ((k : Int) + 3) * 69621) % 2147483647
/-! ### digits -/
def digA (s : Int × List Int) (z : Int) : Int × List Int := (s.1 / z, s.2 ++ [s.1 % z])
def digS (s k : Int) : Int := (s * 48271 + 974711 * k + 12345) % 2147483647
def digT (s : Int) : Int := (s * (s / 65537 + 3)) % 2147483629
def digB (zs : List Int) (s : Int × List Int) (k : Int) : Int × List Int := (digS s.1 k, s.2 ++ [digT (digS s.1 k) / 19 % zs.getD k.toNat 1])
def digits (c : Int) (zs : List Int) : List Int :=
  if (10 : Int) ^ 18 ≤ c then (zs.foldl digA (c - 10 ^ 18, [])).2 else ((rng 0 zs.length).foldl (digB zs) (c % 2147483629, [])).2
def PZ (z : Int) : Prop := 0 < z ∧ z < 1073741824
def Digs (ds zs : List Int) : Prop := ds.length = zs.length ∧ ∀ i, i < zs.length → 0 ≤ ds.getD i 0 ∧ ds.getD i 0 < zs.getD i 1
theorem digits_ok {c : Int} {zs : List Int} (h : ∀ z ∈ zs, PZ z) : Digs (digits c zs) zs := by
  have hA : ∀ (n : Nat) (c : Int), n ≤ zs.length → Digs ((zs.take n).foldl digA (c, [])).2 (zs.take n) := by
    intro n c
    induction n with
    | zero => intro _; exact ⟨by simp, fun i hi => by simp at hi⟩
    | succ n ih =>
      intro hn
      have hx : zs[n]? = some zs[n] := List.getElem?_eq_getElem hn
      rw [foldl_take_succ hx]
      obtain ⟨h1, h2⟩ := ih (Nat.le_of_lt hn)
      have hz := h zs[n] (List.getElem_mem hn)
      have e : zs.take (n + 1) = zs.take n ++ [zs[n]] := List.take_succ_eq_append_getElem hn
      rw [e]
      refine ⟨by simp [digA, h1]; omega, fun i hi => ?_⟩
      rw [List.length_append, List.length_singleton] at hi
      have hl : (zs.take n).length = n := by rw [List.length_take]; omega
      by_cases c1 : i < n
      · have := h2 i (by omega)
        simp only [digA, List.getD_eq_getElem?_getD] at this ⊢
        rw [List.getElem?_append_left (by omega), List.getElem?_append_left (by omega)]
        exact this
      · have : i = n := by omega
        subst this
        simp only [digA, List.getD_eq_getElem?_getD]
        rw [List.getElem?_append_right (by omega), List.getElem?_append_right (by omega), h1, hl, Nat.sub_self]
        exact ⟨Int.emod_nonneg _ (by have := hz.1; omega), Int.emod_lt_of_pos _ hz.1⟩
  have hB : ∀ (n : Nat) (c : Int), n ≤ zs.length → Digs (((rng 0 zs.length).take n).foldl (digB zs) (c, [])).2 (zs.take n) := by
    intro n c
    induction n with
    | zero => intro _; exact ⟨by simp, fun i hi => by simp at hi⟩
    | succ n ih =>
      intro hn
      have hx : (rng 0 zs.length)[n]? = some (n : Int) := rng_get.mpr ⟨hn, by simp⟩
      rw [foldl_take_succ hx]
      obtain ⟨h1, h2⟩ := ih (Nat.le_of_lt hn)
      have hz := h zs[n] (List.getElem_mem hn)
      have e : zs.take (n + 1) = zs.take n ++ [zs[n]] := List.take_succ_eq_append_getElem hn
      rw [e]
      refine ⟨by simp [digB, h1]; omega, fun i hi => ?_⟩
      rw [List.length_append, List.length_singleton] at hi
      have hl : (zs.take n).length = n := by rw [List.length_take]; omega
      by_cases c1 : i < n
      · have := h2 i (by omega)
        simp only [digB, List.getD_eq_getElem?_getD] at this ⊢
        rw [List.getElem?_append_left (by omega), List.getElem?_append_left (by omega)]
        exact this
      · have : i = n := by omega
        subst this
        simp only [digB, List.getD_eq_getElem?_getD]
        rw [List.getElem?_append_right (by omega), List.getElem?_append_right (by omega), h1, hl, Nat.sub_self, Int.toNat_natCast, List.getElem?_eq_getElem (show i < zs.length from hn)]
        exact ⟨Int.emod_nonneg _ (by have := hz.1; simp; omega), Int.emod_lt_of_pos _ hz.1⟩
  unfold digits
  split
  · have := hA zs.length (c - 10 ^ 18) (Nat.le_refl _)
    rwa [List.take_length] at this
  · have := hB zs.length (c % 2147483629) (Nat.le_refl _)
    rwa [List.take_length, show (rng 0 zs.length).take zs.length = rng 0 zs.length from List.take_of_length_le (by rw [rng_len]; exact Nat.le_refl _)] at this
end Q

set_option Elab.async false
set_option linter.all false
set_option maxRecDepth 100000
set_option maxHeartbeats 4000000
namespace Q
open PySem PySem.Spec PyProof.Rows L2 Z
section
variable (P : Program) (w : World) (K : PySem.W.Frag) (mg : Str → Option Value) (base : Heap)
abbrev T_cell : Prop := Df P w K mg base 1 "_law_cell" (fun a : List Int × Nat => [.v rScr a.1, .v rInt (a.2 : Int)]) (fun a => a.2 ≤ 1000) (fun _ => rInt) (fun a => lawCell a.1 a.2)
abbrev T_digits : Prop := Df P w K mg base 1 "_law_digits" (fun a : Int × List Int => [.v rInt a.1, .v (rL rInt) a.2]) (fun a => (∀ z ∈ a.2, PZ z) ∧ a.2.length ≤ 1000) (fun _ => rL rInt) (fun a => digits a.1 a.2)
end
theorem Digs.get {ds zs : List Int} (h : Digs ds zs) {i : Nat} (hi : i < zs.length) : ds[i]? = some (ds.getD i 0) ∧ 0 ≤ ds.getD i 0 ∧ ds.getD i 0 < zs.getD i 1 := ⟨getD_some 0 (by rw [h.1]; exact hi), h.2 i hi⟩
section
variable {P : Program} {w : World} {K : PySem.W.Frag} {mg : Str → Option Value} {base : Heap}
/-! ### the law's cells -/
abbrev sCell : Stmt := topS 27
theorem scCell : FnScope ["script", "k", "seed", "cell"] ["script", "k"] (defScope sCell) := ⟨rfl, rfl, rfl, by decide +kernel, rfl, by decide +kernel, by decide +kernel⟩
theorem D_cell (F : Fn0 K mg "_law_cell" sCell []) (B : Bt mg) : T_cell P w K mg base := by
  refine F.df scCell (fun _ => rfl) (by decide) (fun _ _ _ _ _ _ us hl => match us, hl with | [_, _], _ => rfl) fun ⟨ns, k⟩ hk f cdv A outer s H E hr => ?_
  replace hk : k ≤ 1000 := hk
  show SS _ _ [.v rScr ns, .v rInt (k : Int), .un, .un] (outR rInt (lawCell ns k))
  refine ss_if (eb_lt (ev 1) (ev_lenL B.len (EL.scr (ev 0)))) (fun h => ?_) (fun h => ?_)
  · have hlt : k < ns.length := by
      have := of_decide_eq_true h
      omega
    refine ss_ret (ev_intI B.int (ev_ixL (EL.scr (ev 0)) (ev 1) (atI_nat (List.getElem?_eq_getElem hlt)))) ?_
    show _ = lawCell ns k
    unfold lawCell
    rw [if_pos hlt, List.getD_eq_getElem?_getD, List.getElem?_eq_getElem hlt]
    rfl
  · have hlt : ¬ k < ns.length := by
      have := of_decide_eq_false h
      omega
    refine ss_nil ?_
    refine ss_set 2 scCell.nd ev_int ?_
    refine ss_forF (fun (s : Int) c => (s * 31 + c % 1000003) % 1000003) 17 (fun s => [.v rScr ns, .v rInt (k : Int), .v rInt s, .un]) (fun _ _ => True) (it_scr (ev 0)) (gz_name 3 scCell.nd) ⟨.inr rfl, .inr rfl, .inr rfl, .inr rfl, trivial⟩ trivial (fun _ _ _ _ _ => trivial) (fun i x s hx _ => ?_) (fun _ => ?_)
    · refine ss_set 2 scCell.nd (ev_mod (ev_intI B.int (ev_add (ev_mul (ev 2) ev_int (.inr (by decide))) (ev_mod (ev_intI B.int (ev 3)) ev_int (by decide)))) ev_int (by decide)) ?_
      exact ss_nil ⟨.inr rfl, .inr rfl, .inr rfl, .inl rfl, trivial⟩
    · refine ss_ret (ev_mod (ev_intI B.int (ev_mul (ev_mul (ev_add (ev 2) ev_int) (ev_add (ev 1) ev_int) (.inr ⟨by omega, by omega⟩)) ev_int (.inr (by decide)))) ev_int (by decide)) ?_
      show _ = lawCell ns k
      unfold lawCell
      rw [if_neg hlt]
/-! ### digits -/
abbrev sDig : Stmt := topS 28
theorem scDig : FnScope ["cell", "sizes", "row", "rest", "size", "seed", "k", "twice"] ["cell", "sizes"] (defScope sDig) := ⟨rfl, rfl, rfl, by decide +kernel, rfl, by decide +kernel, by decide +kernel⟩
theorem D_digits (F : Fn0 K mg "_law_digits" sDig []) (B : Bt mg) : T_digits P w K mg base := by
  refine F.df scDig (fun _ => rfl) (by decide) (fun _ _ _ _ _ _ us hl => match us, hl with | [_, _], _ => rfl) fun ⟨c, zs⟩ hz f cdv A outer s H E hr => ?_
  replace hz : (∀ z ∈ zs, PZ z) ∧ zs.length ≤ 1000 := hz
  obtain ⟨hz, hl⟩ := hz
  show SS _ _ [.v rInt c, .v (rL rInt) zs, .un, .un, .un, .un, .un, .un] (outR (rL rInt) (digits c zs))
  refine ss_setO 2 scDig.nd (eo_nil (c := rInt)) ?_
  refine ss_set 3 scDig.nd (ev_intI B.int (ev 0)) ?_
  refine ss_if (eb_ge (ev 3) (ev_pow ev_int ev_int ⟨by decide, by decide, by decide⟩)) (fun h => ?_) (fun h => ss_nil ?_)
  · refine ss_set 3 scDig.nd (ev_sub (ev 3) (ev_pow ev_int ev_int ⟨by decide, by decide, by decide⟩)) ?_
    refine ss_forF digA (c - 10 ^ 18, []) (fun s => [.v rInt c, .v (rL rInt) zs, .ol rInt s.2, .v rInt s.1, .un, .un, .un, .un]) (fun i s => s.2.length ≤ i) (it_L (ev 1)) (gz_name 4 scDig.nd) ⟨.inr rfl, .inr rfl, .inr rfl, .inr rfl, .inr rfl, .inr rfl, .inr rfl, .inr rfl, trivial⟩ (Nat.zero_le _) (fun i x s hx hs => ?_) (fun i x s hx hs => ?_) (fun _ => ?_)
    · simp [digA]
      omega
    · have hp := hz x (List.mem_of_getElem? hx)
      have hi := (List.getElem?_eq_some_iff.mp hx).1
      refine ss_app 2 rfl (ev_mod (ev_intI B.int (ev 3)) (ev 4) hp.1) (by omega) ?_
      refine ss_set 3 scDig.nd (ev_fdiv (ev_intI B.int (ev 3)) (ev 4) hp) ?_
      exact ss_nil ⟨.inr rfl, .inr rfl, .inr rfl, .inr rfl, .inl rfl, .inr rfl, .inr rfl, .inr rfl, trivial⟩
    · refine ss_fz 2 rfl ?_
      refine ss_ret (ev 2) ?_
      show _ = digits c zs
      unfold digits
      exact (if_pos (of_decide_eq_true h)).symm
  · refine ss_set 5 scDig.nd (ev_mod (ev_intI B.int (ev 3)) ev_int (by decide)) ?_
    refine ss_forF (digB zs) (c % 2147483629, []) (fun s => [.v rInt c, .v (rL rInt) zs, .ol rInt s.2, .v rInt c, .un, .v rInt s.1, .un, .un]) (fun i s => s.2.length ≤ i) (it_range zs.length B.range (ev_lenL B.len (EL.of (ev 1))) rfl (by omega)) (gz_name 6 scDig.nd) ⟨.inr rfl, .inr rfl, .inr rfl, .inr rfl, .inr rfl, .inr rfl, .inr rfl, .inr rfl, trivial⟩ (Nat.zero_le _) (fun i x s hx hs => ?_) (fun i x s hx hs => ?_) (fun _ => ?_)
    · simp [digB]
      omega
    · obtain ⟨hi, rfl⟩ := rng_get.mp hx
      have hg : zs[i]? = some (zs.getD i 1) := getD_some 1 hi
      have hp := hz _ (List.mem_of_getElem? hg)
      refine ss_set 5 scDig.nd (ev_mod (ev_intI B.int (ev_add (ev_add (ev_mul (ev 5) ev_int (.inr (by decide))) (ev_mul ev_int (ev 6) (.inl (by decide)))) ev_int)) ev_int (by decide)) ?_
      have hd : digS s.1 (0 + (i : Int)) < 2 ^ 64 ∧ 0 ≤ digS s.1 (0 + (i : Int)) := ⟨Int.lt_trans (Int.emod_lt_of_pos _ (by decide)) (by decide), Int.emod_nonneg _ (by decide)⟩
      refine ss_set 7 scDig.nd (ev_mod (ev_intI B.int (ev_mul (ev 5) (ev_add (ev_fdiv (ev 5) ev_int ⟨by decide, by decide⟩) ev_int) (.inl ⟨by show -(2 ^ 64) < digS s.1 (0 + (i : Int)); omega, hd.1⟩))) ev_int (by decide)) ?_
      refine ss_app 2 rfl (ev_mod (ev_fdiv (ev 7) ev_int ⟨by decide, by decide⟩) (ev_ixL (EL.of (ev 1)) (ev 6) (atI_nat' (n := i) (by omega) hg)) hp.1) (by omega) ?_
      refine ss_nil ?_
      have e : ((0 : Int) + (i : Int)).toNat = i := by omega
      unfold digB
      rw [e]
      exact ⟨.inr rfl, .inr rfl, .inr rfl, .inr rfl, .inr rfl, .inr rfl, .inl rfl, .inl rfl, trivial⟩
    · refine ss_fz 2 rfl ?_
      refine ss_ret (ev 2) ?_
      show _ = digits c zs
      unfold digits
      exact (if_neg (of_decide_eq_false h)).symm
end
end Q

set_option Elab.async false
set_option linter.all false
set_option maxRecDepth 100000
set_option maxHeartbeats 4000000
namespace Q
open PySem PySem.Spec PyProof.Rows L2 Z
def ordS (f : List (List Int)) (k : Int) : List (List Int) := f.flatMap fun o => (rng 0 (o.length + 1)).map fun pl => o.take pl.toNat ++ [k] ++ o.drop pl.toNat
def ordsM (n : Nat) : List (List Int) := (rng 0 n).foldl ordS [[]]
def bagC (b : List Int) (q : Int) : Bool := decide ((b.length : Int) = 0) || decide (b.getLastD 0 ≤ q)
def bagS (width : Nat) (f : List (List Int)) : List (List Int) := f.flatMap fun b => ((rng 0 width).filter (bagC b)).map fun q => b ++ [q]
def allB (width n : Nat) : List (List Int) := (rng 0 n).foldl (fun f _ => bagS width f) [[]]
def pickB (ks : List Kd) (b : List Int) : Bag := b.map fun k => ks.getD k.toNat (0, [])
def exBags (ans : List Nat) (width n : Nat) : List Bag := (allB (kindsM ans width).length n).map (pickB (kindsM ans width))
theorem foldl_filt {α β : Type} (p : α → Bool) (f : α → β) : ∀ (xs : List α) (acc : List β), xs.foldl (fun a x => if p x = true then a ++ [f x] else a) acc = acc ++ (xs.filter p).map f
  | [], acc => by simp
  | x :: xs, acc => by
    rw [List.foldl_cons, foldl_filt p f xs, List.filter_cons]
    by_cases h : p x = true
    · rw [if_pos h, if_pos h]
      simp
    · rw [if_neg h, if_neg h]
theorem allB_succ (w n : Nat) : allB w (n + 1) = bagS w (allB w n) := by
  unfold allB
  rw [rng_succ, List.foldl_append]
  rfl
theorem bagS_len (w : Nat) (f : List (List Int)) : (bagS w f).length ≤ f.length * w := by
  unfold bagS
  induction f with
  | nil => simp
  | cons b f ih =>
    rw [List.flatMap_cons, List.length_append, List.length_map, List.length_cons, Nat.succ_mul]
    have := List.length_filter_le (bagC b) (rng 0 w)
    rw [rng_len] at this
    omega
theorem bagS_mem {w : Nat} {f : List (List Int)} {b : List Int} : b ∈ bagS w f ↔ ∃ c ∈ f, ∃ q, (0 ≤ q ∧ q < (w : Int)) ∧ bagC c q = true ∧ b = c ++ [q] := by
  unfold bagS
  rw [List.mem_flatMap]
  refine exists_congr fun c => and_congr_right fun _ => ?_
  rw [List.mem_map]
  constructor
  · rintro ⟨q, hq, rfl⟩
    obtain ⟨h1, h2⟩ := List.mem_filter.mp hq
    exact ⟨q, rng_mem.mp h1, h2, rfl⟩
  · rintro ⟨q, h1, h2, rfl⟩
    exact ⟨q, List.mem_filter.mpr ⟨rng_mem.mpr h1, h2⟩, rfl⟩
theorem allB_len (w : Nat) : ∀ n, (allB w n).length ≤ w ^ n
  | 0 => Nat.le_refl _
  | n + 1 => by
    rw [allB_succ, Nat.pow_succ]
    exact Nat.le_trans (bagS_len w _) (Nat.mul_le_mul_right _ (allB_len w n))
/-- what a bag of numbers is: so many, below w, not falling -/
theorem allB_mem {w : Nat} : ∀ {n : Nat} {b : List Int}, b ∈ allB w n ↔ b.length = n ∧ (∀ q ∈ b, 0 ≤ q ∧ q < (w : Int)) ∧ b.Pairwise (· ≤ ·)
  | 0, b => by
    show b ∈ [[]] ↔ _
    rw [List.mem_singleton]
    constructor
    · rintro rfl
      exact ⟨rfl, (fun q hq => by cases hq), List.Pairwise.nil⟩
    · intro h
      exact List.eq_nil_of_length_eq_zero h.1
  | n + 1, b => by
    rw [allB_succ, bagS_mem]
    constructor
    · rintro ⟨c, hc, q, hq, hcq, rfl⟩
      obtain ⟨h1, h2, h3⟩ := allB_mem.mp hc
      refine ⟨by simp [h1], fun x hx => ?_, ?_⟩
      · rcases List.mem_append.mp hx with hx | hx
        · exact h2 x hx
        · rw [List.mem_singleton] at hx
          subst hx
          exact hq
      · rw [List.pairwise_append]
        refine ⟨h3, List.pairwise_singleton _ _, fun x hx y hy => ?_⟩
        rw [List.mem_singleton] at hy
        subst hy
        unfold bagC at hcq
        rw [Bool.or_eq_true, decide_eq_true_iff, decide_eq_true_iff] at hcq
        rcases hcq with h | h
        · have : c = [] := List.eq_nil_of_length_eq_zero (by omega)
          subst this
          cases hx
        · have hne : c ≠ [] := fun e => by rw [e] at hx; cases hx
          rw [List.getLastD_eq_getLast?, List.getLast?_eq_some_getLast hne, Option.getD_some] at h
          have hd : c.dropLast ++ [c.getLast hne] = c := List.dropLast_concat_getLast hne
          have h4 : x ≤ c.getLast hne := by
            rw [← hd] at hx h3
            rw [List.pairwise_append] at h3
            rcases List.mem_append.mp hx with hx | hx
            · exact h3.2.2 x hx _ (List.mem_singleton_self _)
            · rw [List.mem_singleton] at hx
              omega
          omega
    · rintro ⟨h1, h2, h3⟩
      have hne : b ≠ [] := fun e => by rw [e] at h1; simp at h1
      have hd : b.dropLast ++ [b.getLast hne] = b := List.dropLast_concat_getLast hne
      refine ⟨b.dropLast, allB_mem.mpr ⟨by rw [List.length_dropLast]; omega, fun q hq => h2 q ((List.dropLast_sublist b).subset hq), h3.sublist (List.dropLast_sublist b)⟩, b.getLast hne, h2 _ (List.getLast_mem hne), ?_, hd.symm⟩
      unfold bagC
      rw [Bool.or_eq_true, decide_eq_true_iff, decide_eq_true_iff]
      by_cases e : b.dropLast = []
      · exact .inl (by rw [e]; rfl)
      · refine .inr ?_
        rw [List.getLastD_eq_getLast?, List.getLast?_eq_some_getLast e, Option.getD_some]
        rw [← hd, List.pairwise_append] at h3
        exact h3.2.2 _ (List.getLast_mem e) _ (List.mem_singleton_self _)
end Q

set_option Elab.async false
set_option linter.all false
set_option maxRecDepth 100000
set_option maxHeartbeats 4000000
namespace Q
open PySem PySem.Spec PyProof.Rows L2 Z
/-- a pair with a bottom that is not large -/
def Pr (x : Int × Int) : Prop := 0 < x.2 ∧ x.2 < 2 ^ 64
theorem EV.pairT {X : Cx} {Γ : List Sl} {e : Expr} {α : Type} {c : Rp α} {x : α × α} (h : EV X e Γ (r2 c c) x) : EV X e Γ (rT c) [x.1, x.2] :=
  PE.imp h fun σ H Q ⟨F0, H0, F, ok, q⟩ => ⟨F0, H0, F, ok, fun v F' H' g ⟨a, v1, v2, e, hs, p1, p2⟩ => q v F' H' g ⟨a, [v1, v2], e, hs, .cons p1 (.cons p2 .nil)⟩⟩
section
variable (P : Program) (w : World) (K : PySem.W.Frag) (mg : Str → Option Value) (base : Heap)
abbrev T_whole : Prop := Df P w K mg base 1 "_law_whole" (fun a : Int => [.v rInt a]) (fun _ => True) (fun _ => rBool) (fun _ => true)
abbrev T_isratio : Prop := Df P w K mg base 2 "_law_is_ratio" (fun q : Rat => [.v rRt (ofR q)]) (fun _ => True) (fun _ => rBool) (fun _ => true)
abbrev T_isless : Prop := Df P w K mg base 1 "_law_is_less" (fun a : (Int × Int) × (Int × Int) => [.v rRt a.1, .v rRt a.2]) (fun a => Pr a.1 ∧ Pr a.2) (fun _ => rBool) (fun a => decide (a.1.1 * a.2.2 < a.2.1 * a.1.2))
abbrev T_added : Prop := Df P w K mg base 3 "_law_added" (fun a : (Int × Int) × (Int × Int) => [.v rRt a.1, .v rRt a.2]) (fun a => Pr a.1 ∧ Pr a.2) (fun _ => rRt) (fun a => ofR (frac (a.1.1 * a.2.2 + a.2.1 * a.1.2) (a.1.2 * a.2.2)))
abbrev T_timed : Prop := Df P w K mg base 3 "_law_timed" (fun a : (Int × Int) × (Int × Int) => [.v rRt a.1, .v rRt a.2]) (fun a => Pr a.1 ∧ Pr a.2 ∧ -(2 ^ 64) < a.2.1 ∧ a.2.1 < 2 ^ 64) (fun _ => rRt) (fun a => ofR (frac (a.1.1 * a.2.1) (a.1.2 * a.2.2)))
end
section
variable {P : Program} {w : World} {K : PySem.W.Frag} {mg : Str → Option Value} {base : Heap}
abbrev sWh : Stmt := topS 26
theorem scWh : FnScope ["value"] ["value"] (defScope sWh) := ⟨rfl, rfl, rfl, by decide +kernel, rfl, by decide +kernel, by decide +kernel⟩
theorem D_whole (F : Fn0 K mg "_law_whole" sWh []) (B : Bt mg) : T_whole P w K mg base := by
  refine F.df scWh (fun _ => rfl) (by decide) (fun _ _ _ _ _ _ us hl => match us, hl with | [_], _ => rfl) fun v _ f cdv A outer s H E hr => ?_
  show SS _ _ [.v rInt v] (outR rBool true)
  exact ss_ret (ev_and (ev_isi "int" (k := true) tyInt B.isin (ev 0) B.int) fun _ => ev_one (ev_not (ev_isi "bool" (k := false) tyInt B.isin (ev 0) B.bool))) rfl
abbrev sIr : Stmt := topS 31
theorem scIr : FnScope ["value"] ["value"] (defScope sIr) := ⟨rfl, rfl, rfl, by decide +kernel, rfl, by decide +kernel, by decide +kernel⟩
theorem D_isratio (F : Fn0 K mg "_law_is_ratio" sIr []) (B : Bt mg) (G1 : T_whole P w K mg base) (G2 : T_gcd P w K mg base "_law_divisor") : T_isratio P w K mg base := by
  refine F.df scIr (fun _ => rfl) (by decide) (fun _ _ _ _ _ _ us hl => match us, hl with | [_], _ => rfl) fun q _ f cdv A outer s H E hr => ?_
  show SS _ _ [.v rRt (ofR q)] (outR rBool true)
  have hq := ofR_den_pos q
  have hg := ofR_gcd q
  generalize ofR q = x at *
  obtain ⟨a, b⟩ := x
  dsimp only at hq hg
  refine ss_if (EW.eb (ew_or (eb_not (EB.of (ev_isi "tuple" (k := true) ty2 B.isin (ev 0) B.tuple))) fun _ => ew_or1 (eb_neI (ev_lenT B.len (EV.pairT (c := rInt) (ev 0))) ev_int))) (fun h => ?_) (fun _ => ss_nil ?_)
  · exfalso
    simp at h
  refine ss_if (EW.eb (ew_or (eb_not (eb_call G1 hr a (es_cons (ev_fst2 (ev 0)) es_nil) trivial)) fun _ => ew_or (eb_not (eb_call G1 hr b (es_cons (ev_snd2 (ev 0)) es_nil) trivial)) fun _ => ew_or1 (eb_lt (ev_snd2 (x := a) (y := b) (ev 0)) ev_int))) (fun h => ?_) (fun _ => ss_nil ?_)
  · exfalso
    simp at h
    omega
  refine ss_ret (ev_eqI (ev_cal G2 hr (a, b) (es_cons (ev_fst2 (ev 0)) (es_cons (ev_snd2 (ev 0)) es_nil)) trivial) ev_int) ?_
  show decide (gcdI a b = 1) = true
  exact decide_eq_true hg
abbrev sLe : Stmt := topS 32
theorem scLe : FnScope ["one", "two"] ["one", "two"] (defScope sLe) := ⟨rfl, rfl, rfl, by decide +kernel, rfl, by decide +kernel, by decide +kernel⟩
theorem D_isless (F : Fn0 K mg "_law_is_less" sLe []) : T_isless P w K mg base := by
  refine F.df scLe (fun _ => rfl) (by decide) (fun _ _ _ _ _ _ us hl => match us, hl with | [_, _], _ => rfl) fun ⟨⟨a, b⟩, ⟨c, d⟩⟩ hz f cdv A outer s H E hr => ?_
  obtain ⟨h1, h2⟩ := hz
  unfold Pr at h1 h2
  dsimp only at h1 h2
  show SS _ _ [.v rRt (a, b), .v rRt (c, d)] (outR rBool (decide (a * d < c * b)))
  exact ss_ret (ev_lt (ev_mul (ev_fst2 (ev 0)) (ev_snd2 (x := c) (y := d) (ev 1)) (.inr ⟨by omega, by omega⟩)) (ev_mul (ev_fst2 (ev 1)) (ev_snd2 (x := a) (y := b) (ev 0)) (.inr ⟨by omega, by omega⟩))) rfl
theorem sm_mul {b d : Int} (h1 : 0 < b ∧ b < 2 ^ 64) (h2 : 0 < d ∧ d < 2 ^ 64) : Sm (b * d) := by
  have h3 : 0 < b * d := Int.mul_pos h1.1 h2.1
  have h4 : b * d ≤ 2 ^ 64 * 2 ^ 64 := Int.mul_le_mul (by omega) (by omega) (by omega) (by decide)
  refine ⟨by omega, ?_⟩
  have : (2 : Int) ^ 64 * 2 ^ 64 < 2 ^ 250 := by decide
  omega
abbrev sAd : Stmt := topS 33
theorem scAd : FnScope ["one", "two"] ["one", "two"] (defScope sAd) := ⟨rfl, rfl, rfl, by decide +kernel, rfl, by decide +kernel, by decide +kernel⟩
theorem D_added (F : Fn0 K mg "_law_added" sAd []) (G : T_ratio P w K mg base "_law_ratio") : T_added P w K mg base := by
  refine F.df scAd (fun _ => rfl) (by decide) (fun _ _ _ _ _ _ us hl => match us, hl with | [_, _], _ => rfl) fun ⟨⟨a, b⟩, ⟨c, d⟩⟩ hz f cdv A outer s H E hr => ?_
  obtain ⟨h1, h2⟩ := hz
  unfold Pr at h1 h2
  dsimp only at h1 h2
  show SS _ _ [.v rRt (a, b), .v rRt (c, d)] (outR rRt (ofR (frac (a * d + c * b) (b * d))))
  exact ss_ret (ev_cal G hr (a * d + c * b, b * d) (es_cons (ev_add (ev_mul (ev_fst2 (ev 0)) (ev_snd2 (x := c) (y := d) (ev 1)) (.inr ⟨by omega, by omega⟩)) (ev_mul (ev_fst2 (ev 1)) (ev_snd2 (x := a) (y := b) (ev 0)) (.inr ⟨by omega, by omega⟩))) (es_cons (ev_mul (ev_snd2 (x := a) (y := b) (ev 0)) (ev_snd2 (x := c) (y := d) (ev 1)) (.inr ⟨by omega, by omega⟩)) es_nil)) (sm_mul h1 h2)) rfl
abbrev sTi : Stmt := topS 34
theorem scTi : FnScope ["one", "two"] ["one", "two"] (defScope sTi) := ⟨rfl, rfl, rfl, by decide +kernel, rfl, by decide +kernel, by decide +kernel⟩
theorem D_timed (F : Fn0 K mg "_law_timed" sTi []) (G : T_ratio P w K mg base "_law_ratio") : T_timed P w K mg base := by
  refine F.df scTi (fun _ => rfl) (by decide) (fun _ _ _ _ _ _ us hl => match us, hl with | [_, _], _ => rfl) fun ⟨⟨a, b⟩, ⟨c, d⟩⟩ hz f cdv A outer s H E hr => ?_
  obtain ⟨h1, h2, h3⟩ := hz
  unfold Pr at h1 h2
  dsimp only at h1 h2 h3
  show SS _ _ [.v rRt (a, b), .v rRt (c, d)] (outR rRt (ofR (frac (a * c) (b * d))))
  exact ss_ret (ev_cal G hr (a * c, b * d) (es_cons (ev_mul (ev_fst2 (ev 0)) (ev_fst2 (x := c) (y := d) (ev 1)) (.inr ⟨by omega, by omega⟩)) (es_cons (ev_mul (ev_snd2 (x := a) (y := b) (ev 0)) (ev_snd2 (x := c) (y := d) (ev 1)) (.inr ⟨by omega, by omega⟩)) es_nil)) (sm_mul h1 h2)) rfl
end
end Q

set_option Elab.async false
set_option linter.all false
set_option maxRecDepth 100000
set_option maxHeartbeats 4000000
namespace Q
open PySem PySem.Spec PyProof.Rows L2 Z
section
variable (P : Program) (w : World) (K : PySem.W.Frag) (mg : Str → Option Value) (base : Heap)
abbrev T_orders : Prop := Df P w K mg base 1 "_law_orders" (fun a : Nat => [.v rInt (a : Int)]) (fun a => a ≤ 4) (fun _ => rL (rT rInt)) ordsM
abbrev T_allB : Prop := Df P w K mg base 1 "_law_all_bags" (fun a : Nat × Nat => [.v rInt (a.1 : Int), .v rInt (a.2 : Int)]) (fun a => a.1 ≤ 24 ∧ a.2 ≤ 4) (fun _ => rL (rT rInt)) (fun a => allB a.1 a.2)
abbrev T_lkinds : Prop := Df P w K mg base 1 "_law_kinds" (fun a : List Nat × Nat => [.v rTx a.1, .v rInt (a.2 : Int)]) (fun a => a.1.length ≤ 100 ∧ a.2 ≤ 100) (fun _ => rL rKd) (fun a => kindsM a.1 a.2)
abbrev T_exB : Prop := Df P w K mg base 2 "_law_example_bags" (fun a : List Nat × Nat × Nat => [.v rTx a.1, .v rInt (a.2.1 : Int), .v rInt (a.2.2 : Int)]) (fun a => a.1.length ≤ 4 ∧ a.2.1 ≤ 6 ∧ a.2.2 ≤ 4) (fun _ => rL (rTd rKd)) (fun a => exBags a.1 a.2.1 a.2.2)
end
section
variable {P : Program} {w : World} {K : PySem.W.Frag} {mg : Str → Option Value} {base : Heap}
abbrev sOr : Stmt := topS 35
theorem scOr : FnScope ["count", "found", "k", "grown", "order", "place"] ["count"] (defScope sOr) := ⟨rfl, rfl, rfl, by decide +kernel, rfl, by decide +kernel, by decide +kernel⟩
theorem D_orders (F : Fn0 K mg "_law_orders" sOr []) (B : Bt mg) : T_orders P w K mg base := by
  refine F.df scOr (fun _ => rfl) (by decide) (fun _ _ _ _ _ _ us hl => match us, hl with | [_], _ => rfl) fun n hz f cdv A outer s H E hr => ?_
  replace hz : n ≤ 4 := hz
  show SS _ _ [.v rInt (n : Int), .un, .un, .un, .un, .un] (outR (rL (rT rInt)) (ordsM n))
  refine ss_setO 1 scOr.nd (eo_lst (c := rT rInt) (xs := [[]]) (ea1 (ev_tup (xs := []) ea_nil (Nat.zero_le _))) (by decide)) ?_
  refine ss_fz 1 rfl ?_
  refine ss_forF ordS [[]] (fun f => [.v rInt (n : Int), .v (rL (rT rInt)) f, .un, .un, .un, .un]) (fun i f => f.length ≤ 5 ^ i ∧ ∀ l ∈ f, l.length ≤ i) (it_range n B.range (ev 0) rfl (by omega)) (gz_name 2 scOr.nd) ⟨.inr rfl, .inr rfl, .inr rfl, .inr rfl, .inr rfl, .inr rfl, trivial⟩ ⟨Nat.le_refl _, fun l hl => by rw [List.mem_singleton.mp hl]; exact Nat.le_refl _⟩ (fun i k f hx ⟨h1, h2⟩ => ?_) (fun i k f hx hf => ?_) (fun _ => ss_ret (ev 1) rfl)
  · obtain ⟨hi, rfl⟩ := rng_get.mp hx
    unfold ordS
    refine ⟨?_, fun l hl => ?_⟩
    · have : ∀ f : List (List Int), (∀ l ∈ f, l.length ≤ i) → (f.flatMap fun o => (rng 0 (o.length + 1)).map fun pl => o.take pl.toNat ++ [0 + (i : Int)] ++ o.drop pl.toNat).length ≤ f.length * 5 := by
        intro f
        induction f with
        | nil => intro _; simp
        | cons o f ih =>
          intro h
          have h3 := ih fun l hl => h l (List.mem_cons_of_mem _ hl)
          have h4 := h o (List.mem_cons_self ..)
          rw [List.flatMap_cons, List.length_append, List.length_map, rng_len, List.length_cons, Nat.succ_mul]
          omega
      rw [Nat.pow_succ]
      exact Nat.le_trans (this f h2) (Nat.mul_le_mul_right _ h1)
    · obtain ⟨o, ho, hl⟩ := List.mem_flatMap.mp hl
      obtain ⟨pl, _, rfl⟩ := List.mem_map.mp hl
      have := h2 o ho
      simp
      omega
  · obtain ⟨hi, rfl⟩ := rng_get.mp hx
    have hp : 5 ^ i ≤ 5 ^ 4 := Nat.pow_le_pow_right (by decide) (by omega)
    obtain ⟨h1, h2⟩ := hf
    refine ss_setO 3 scOr.nd (eo_nil (c := rT rInt)) ?_
    refine ss_forF (fun acc (o : List Int) => acc ++ (rng 0 (o.length + 1)).map fun pl => o.take pl.toNat ++ [0 + (i : Int)] ++ o.drop pl.toNat) [] (fun acc => [.v rInt (n : Int), .v (rL (rT rInt)) f, .v rInt (0 + (i : Int)), .ol (rT rInt) acc, .un, .un]) (fun j acc => acc.length ≤ j * 10) (it_L (ev 1)) (gz_name 4 scOr.nd) ⟨.inr rfl, .inr rfl, .inr rfl, .inr rfl, .inr rfl, .inr rfl, trivial⟩ (Nat.zero_le _) (fun j o acc hy ha => ?_) (fun j o acc hy ha => ?_) (fun _ => ?_)
    · have := h2 o (List.mem_of_getElem? hy)
      rw [List.length_append, List.length_map, rng_len]
      omega
    · have hol := h2 o (List.mem_of_getElem? hy)
      have hjl := (List.getElem?_eq_some_iff.mp hy).1
      refine ss_forF (fun ac (pl : Int) => ac ++ [o.take pl.toNat ++ [0 + (i : Int)] ++ o.drop pl.toNat]) acc (fun ac => [.v rInt (n : Int), .v (rL (rT rInt)) f, .v rInt (0 + (i : Int)), .ol (rT rInt) ac, .v (rT rInt) o, .un]) (fun m ac => ac.length ≤ j * 10 + m) (it_range (o.length + 1) B.range (ev_add (ev_lenT B.len (ev 4)) ev_int) (by omega) (by omega)) (gz_name 5 scOr.nd) ⟨.inr rfl, .inr rfl, .inr rfl, .inr rfl, .inr rfl, .inr rfl, trivial⟩ ha (fun m pl ac hz hm => by simp; omega) (fun m pl ac hz hm => ?_) (fun _ => ?_)
      · obtain ⟨hm2, rfl⟩ := rng_get.mp hz
        rw [show ((0 : Int) + (m : Int)) = (m : Int) by omega]
        refine ss_app 3 rfl (x := o.take m ++ [0 + (i : Int)] ++ o.drop m) (EV.cast (ev_catT (ev_catT (ev_cutT (ev 4) so_none (so m (ev 5))) (ev_tup (xs := [_]) (ea1 (ev 2)) (by simp)) (by simp; omega)) (ev_cutT (ev 4) (so m (ev 5)) so_none) (by simp; omega)) (by simp)) (by omega) ?_
        refine ss_nil ?_
        rw [Int.toNat_natCast]
        exact ⟨.inr rfl, .inr rfl, .inr rfl, .inr rfl, .inr rfl, .inl rfl, trivial⟩
      · refine ss_nil ?_
        rw [foldl_app (fun pl : Int => o.take pl.toNat ++ [0 + (i : Int)] ++ o.drop pl.toNat)]
        exact ⟨.inr rfl, .inr rfl, .inr rfl, .inr rfl, .inl rfl, .inr rfl, trivial⟩
    · rw [foldl_appL (fun o : List Int => (rng 0 (o.length + 1)).map fun pl => o.take pl.toNat ++ [0 + (i : Int)] ++ o.drop pl.toNat), List.nil_append]
      refine ss_setO 1 scOr.nd (eo_listL B.list (el 3)) ?_
      refine ss_fz 1 rfl ?_
      exact ss_nil ⟨.inr rfl, .inr rfl, .inl rfl, .inl rfl, .inr rfl, .inr rfl, trivial⟩
end
end Q

set_option Elab.async false
set_option linter.all false
set_option maxRecDepth 100000
set_option maxHeartbeats 4000000
namespace Q
open PySem PySem.Spec PyProof.Rows L2 Z
section
variable {P : Program} {w : World} {K : PySem.W.Frag} {mg : Str → Option Value} {base : Heap}
/-! ### all bags -/
abbrev sAb : Stmt := topS 36
theorem scAb : FnScope ["width", "places", "found", "k", "grown", "bag", "question"] ["width", "places"] (defScope sAb) := ⟨rfl, rfl, rfl, by decide +kernel, rfl, by decide +kernel, by decide +kernel⟩
theorem D_allB (F : Fn0 K mg "_law_all_bags" sAb []) (B : Bt mg) : T_allB P w K mg base := by
  refine F.df scAb (fun _ => rfl) (by decide) (fun _ _ _ _ _ _ us hl => match us, hl with | [_, _], _ => rfl) fun ⟨wd, n⟩ hz f cdv A outer s H E hr => ?_
  obtain ⟨hw, hn⟩ := hz
  dsimp only at hw hn
  show SS _ _ [.v rInt (wd : Int), .v rInt (n : Int), .un, .un, .un, .un, .un] (outR (rL (rT rInt)) (allB wd n))
  refine ss_setO 2 scAb.nd (eo_lst (c := rT rInt) (xs := [[]]) (ea1 (ev_tup (xs := []) ea_nil (Nat.zero_le _))) (by decide)) ?_
  refine ss_fz 2 rfl ?_
  refine ss_forF (fun f (_ : Int) => bagS wd f) [[]] (fun f => [.v rInt (wd : Int), .v rInt (n : Int), .v (rL (rT rInt)) f, .un, .un, .un, .un]) (fun i f => f.length ≤ 24 ^ i ∧ ∀ l ∈ f, l.length ≤ i) (it_range n B.range (ev 1) rfl (by omega)) (gz_name 3 scAb.nd) ⟨.inr rfl, .inr rfl, .inr rfl, .inr rfl, .inr rfl, .inr rfl, .inr rfl, trivial⟩ ⟨Nat.le_refl _, fun l hl => by rw [List.mem_singleton.mp hl]; exact Nat.le_refl _⟩ (fun i k f hx ⟨h1, h2⟩ => ?_) (fun i k f hx hf => ?_) (fun _ => ss_ret (ev 2) rfl)
  · refine ⟨?_, fun l hl => ?_⟩
    · rw [Nat.pow_succ]
      exact Nat.le_trans (bagS_len wd f) (Nat.mul_le_mul h1 hw)
    · obtain ⟨c, hc, q, _, _, rfl⟩ := bagS_mem.mp hl
      have := h2 c hc
      simp
      omega
  · obtain ⟨hi, rfl⟩ := rng_get.mp hx
    have hp : 24 ^ i ≤ 24 ^ 3 := Nat.pow_le_pow_right (by decide) (by omega)
    obtain ⟨h1, h2⟩ := hf
    refine ss_setO 4 scAb.nd (eo_nil (c := rT rInt)) ?_
    refine ss_forF (fun acc (b : List Int) => acc ++ ((rng 0 wd).filter (bagC b)).map fun q => b ++ [q]) [] (fun acc => [.v rInt (wd : Int), .v rInt (n : Int), .v (rL (rT rInt)) f, .un, .ol (rT rInt) acc, .un, .un]) (fun j acc => acc.length ≤ j * 24) (it_L (ev 2)) (gz_name 5 scAb.nd) ⟨.inr rfl, .inr rfl, .inr rfl, .inl rfl, .inr rfl, .inr rfl, .inr rfl, trivial⟩ (Nat.zero_le _) (fun j b acc hy ha => ?_) (fun j b acc hy ha => ?_) (fun _ => ?_)
    · have h3 := List.length_filter_le (bagC b) (rng 0 wd)
      rw [rng_len] at h3
      rw [List.length_append, List.length_map]
      omega
    · have hbl := h2 b (List.mem_of_getElem? hy)
      have hjl := (List.getElem?_eq_some_iff.mp hy).1
      refine ss_forF (fun ac (q : Int) => if bagC b q = true then ac ++ [b ++ [q]] else ac) acc (fun ac => [.v rInt (wd : Int), .v rInt (n : Int), .v (rL (rT rInt)) f, .un, .ol (rT rInt) ac, .v (rT rInt) b, .un]) (fun m ac => ac.length ≤ j * 24 + m) (it_range wd B.range (ev 0) rfl (by omega)) (gz_name 6 scAb.nd) ⟨.inr rfl, .inr rfl, .inr rfl, .inr rfl, .inr rfl, .inr rfl, .inr rfl, trivial⟩ ha (fun m q ac hz hm => by split <;> first | omega | (rw [List.length_append, List.length_singleton]; omega)) (fun m q ac hz hm => ?_) (fun _ => ?_)
      · obtain ⟨hm2, rfl⟩ := rng_get.mp hz
        refine ss_if (k := bagC b (0 + (m : Int))) (EW.eb (ew_or (eb_eqI (ev_lenT B.len (ev 5)) ev_int) fun h => ew_or1 (eb_ge (ev 6) (ev_ixT (x := b.getLastD 0) (ev 5) (ev_neg ev_int) (atI_neg1 (by
          cases e : b.getLast? with
          | none =>
            rw [List.getLast?_eq_none_iff] at e
            subst e
            simp at h
          | some y => rw [List.getLastD_eq_getLast?, e]; rfl)))))) (fun h => ?_) (fun h => ?_)
        · refine ss_app 4 rfl (ev_catT (ev 5) (ev_tup (xs := [_]) (ea1 (ev 6)) (by simp)) (by simp; omega)) (by omega) (ss_nil (ss_nil ?_))
          rw [if_pos h]
          exact ⟨.inr rfl, .inr rfl, .inr rfl, .inr rfl, .inr rfl, .inr rfl, .inl rfl, trivial⟩
        · refine ss_nil (ss_nil ?_)
          rw [if_neg (by rw [h]; exact Bool.false_ne_true)]
          exact ⟨.inr rfl, .inr rfl, .inr rfl, .inr rfl, .inr rfl, .inr rfl, .inl rfl, trivial⟩
      · refine ss_nil ?_
        rw [foldl_filt]
        exact ⟨.inr rfl, .inr rfl, .inr rfl, .inr rfl, .inr rfl, .inl rfl, .inr rfl, trivial⟩
    · rw [foldl_appL (fun b : List Int => ((rng 0 wd).filter (bagC b)).map fun q => b ++ [q]), List.nil_append]
      refine ss_setO 2 scAb.nd (eo_listL B.list (el 4)) ?_
      refine ss_fz 2 rfl ?_
      exact ss_nil ⟨.inr rfl, .inr rfl, .inr rfl, .inr rfl, .inl rfl, .inr rfl, .inr rfl, trivial⟩
/-! ### the kinds, the bags of examples -/
abbrev sLk : Stmt := topS 37
theorem scLk : FnScope ["answers", "width", "told", "question", "answer"] ["answers", "width"] (defScope sLk) := ⟨rfl, rfl, rfl, by decide +kernel, rfl, by decide +kernel, by decide +kernel⟩
theorem D_lkinds (F : Fn0 K mg "_law_kinds" sLk []) (B : Bt mg) : T_lkinds P w K mg base := by
  refine F.df scLk (fun _ => rfl) (by decide) (fun _ _ _ _ _ _ us hl => match us, hl with | [_, _], _ => rfl) fun ⟨ans, n⟩ hz f cdv A outer s H E hr => ?_
  obtain ⟨h1, h2⟩ := hz
  dsimp only at h1 h2
  show SS _ _ [.v rTx ans, .v rInt (n : Int), .un, .un, .un] (outR (rL rKd) (kindsM ans n))
  refine ss_setO 2 scLk.nd (eo_nil (c := rKd)) ?_
  refine ss_forF (fun acc (q : Int) => acc ++ (ans.map fun ch => [ch]).map fun a => ((q, a) : Kd)) [] (fun acc => [.v rTx ans, .v rInt (n : Int), .ol rKd acc, .un, .un]) (fun i acc => acc.length ≤ i * 100) (it_range n B.range (ev 1) rfl (by omega)) (gz_name 3 scLk.nd) ⟨.inr rfl, .inr rfl, .inr rfl, .inr rfl, .inr rfl, trivial⟩ (Nat.zero_le _) (fun i q acc hx ha => by rw [List.length_append, List.length_map, List.length_map]; omega) (fun i q acc hx ha => ?_) (fun _ => ?_)
  · obtain ⟨hi, rfl⟩ := rng_get.mp hx
    refine ss_forF (fun ac (a : List Nat) => ac ++ [((0 + (i : Int), a) : Kd)]) acc (fun ac => [.v rTx ans, .v rInt (n : Int), .ol rKd ac, .v rInt (0 + (i : Int)), .un]) (fun m ac => ac.length ≤ i * 100 + m) (it_S (l := ans) (ev 0)) (gz_name 4 scLk.nd) ⟨.inr rfl, .inr rfl, .inr rfl, .inr rfl, .inr rfl, trivial⟩ ha (fun m a ac hy hm => by simp; omega) (fun m a ac hy hm => ?_) (fun _ => ?_)
    · have hm2 := (List.getElem?_eq_some_iff.mp hy).1
      rw [List.length_map] at hm2
      refine ss_app 2 rfl (ev_tup2 (ev 3) (ev 4)) (by omega) ?_
      exact ss_nil ⟨.inr rfl, .inr rfl, .inr rfl, .inr rfl, .inl rfl, trivial⟩
    · refine ss_nil ?_
      rw [foldl_app (fun a : List Nat => ((0 + (i : Int), a) : Kd))]
      exact ⟨.inr rfl, .inr rfl, .inr rfl, .inl rfl, .inr rfl, trivial⟩
  · rw [foldl_appL (fun q : Int => (ans.map fun ch => [ch]).map fun a => ((q, a) : Kd)), List.nil_append]
    exact ss_fz 2 rfl (ss_ret (ev 2) rfl)
abbrev sEb : Stmt := topS 38
theorem scEb : FnScope ["answers", "width", "places", "kinds", "bag", "k"] ["answers", "width", "places"] (defScope sEb) := ⟨rfl, rfl, rfl, by decide +kernel, rfl, by decide +kernel, by decide +kernel⟩
theorem D_exB (F : Fn0 K mg "_law_example_bags" sEb []) (B : Bt mg) (G1 : T_lkinds P w K mg base) (G2 : T_allB P w K mg base) : T_exB P w K mg base := by
  refine F.df scEb (fun _ => rfl) (by decide) (fun _ _ _ _ _ _ us hl => match us, hl with | [_, _, _], _ => rfl) fun ⟨ans, n, p⟩ hz f cdv A outer s H E hr => ?_
  obtain ⟨h1, h2, h3⟩ := hz
  dsimp only at h1 h2 h3
  show SS _ _ [.v rTx ans, .v rInt (n : Int), .v rInt (p : Int), .un, .un, .un] (outR (rL (rTd rKd)) (exBags ans n p))
  refine ss_set 3 scEb.nd (ev_cal G1 hr (ans, n) (es_cons (ev 0) (es_cons (ev 1) es_nil)) ⟨by show ans.length ≤ 100; omega, by show n ≤ 100; omega⟩) ?_
  have hk : (kindsM ans n).length ≤ 24 := by
    rw [kindsM_len]
    exact Nat.le_trans (Nat.mul_le_mul h2 h1) (by decide)
  have hl : (allB (kindsM ans n).length p).length ≤ 24 ^ 4 := Nat.le_trans (allB_len _ _) (Nat.le_trans (Nat.pow_le_pow_left hk p) (Nat.pow_le_pow_right (by decide) h3))
  refine ss_ret (EO.fz (eo_lc0 (pickB (kindsM ans n)) scEb.nd (it_L (ev_cal G2 hr ((kindsM ans n).length, p) (es_cons (ev_lenL B.len (EL.of (ev 3))) (es_cons (ev 2) es_nil)) ⟨hk, h3⟩)) (own := [("bag", 4)]) (blkOk_by (by kernel_rfl)) (fun _ _ _ _ _ => gz_name 4 scEb.nd) (by decide) (fun s H C cl fp b hb => ev_tupLd B.tuple (EL.of (EO.fz (eo_lc0 (fun k : Int => (kindsM ans n).getD k.toNat (0, [])) scEb.nd (it_T (ev 4)) (own := [("k", 5)]) (blkOk_by (by kernel_rfl)) (fun _ _ _ _ _ => gz_name 5 scEb.nd) (by decide) (fun s H C cl fp k hkb => ev_ixL (EL.of (ev 3)) (ev 5) (pick_at _ _ ((allB_mem.mp hb).2.1 k hkb).1 ((allB_mem.mp hb).2.1 k hkb).2)) (by have := (allB_mem.mp hb).1; omega))))) (by omega))) rfl
end
end Q

set_option Elab.async false
set_option linter.all false
set_option maxRecDepth 100000
set_option maxHeartbeats 4000000
namespace Q
open PySem PySem.Spec PyProof.Rows L2 Z
/-- a shape: answers, width, places -/
def ShOk (x : List Nat × Int × Int) : Prop := ∃ wd p : Nat, x.2.1 = wd ∧ x.2.2 = p ∧ isAns x.1 = true ∧ 1 ≤ wd ∧ wd ≤ 4 ∧ 1 ≤ p ∧ p ≤ 3
section
variable (P : Program) (w : World) (K : PySem.W.Frag) (mg : Str → Option Value) (base : Heap)
abbrev rSh : Rp (List Nat × Int × Int) := rL3 rTx rInt rInt
abbrev T_shape : Prop := Dfp P w K mg base 2 "_law_small_shape" (fun a : List Int × Nat => [.v rScr a.1, .v rInt (a.2 : Int)]) (fun a => a.2 ≤ 900) (fun _ => rSh) (fun _ x => ShOk x)
end
def shKs : List (List Nat × Int) := [([110, 121], 2), ([110, 121], 1), ([97, 98, 99], 1), ([110, 121], 2), ([97, 98], 2), ([110, 121], 3), ([110, 121], 2), ([97, 98], 2), ([97, 98, 99], 2), ([110, 121], 2), ([97, 98], 4), ([97, 98, 99, 100], 2)]
theorem shKs_ok : ∀ x ∈ shKs, isAns x.1 = true ∧ 1 ≤ x.2 ∧ x.2 ≤ 4 := by decide
def shPs : List Int := [2, 2, 1, 3]
theorem shPs_ok : ∀ x ∈ shPs, 1 ≤ x ∧ x ≤ 3 := by decide
section
variable {P : Program} {w : World} {K : PySem.W.Frag} {mg : Str → Option Value} {base : Heap}
abbrev sSh : Stmt := topS 40
theorem scSh : FnScope ["script", "at", "shape", "kind", "places"] ["script", "at"] (defScope sSh) := ⟨rfl, rfl, rfl, by decide +kernel, rfl, by decide +kernel, by decide +kernel⟩
theorem D_shape (F : Fn0 K mg "_law_small_shape" sSh []) (B : Bt mg) (G1 : T_cell P w K mg base) (G2 : T_digits P w K mg base) : T_shape P w K mg base := by
  refine F.dfp scSh (fun _ => rfl) (by decide) (fun _ _ _ _ _ _ us hl => match us, hl with | [_, _], _ => rfl) fun ⟨ns, k⟩ hz f cdv A outer s H E hr => ?_
  replace hz : k ≤ 900 := hz
  show SS _ _ [.v rScr ns, .v rInt (k : Int), .un, .un, .un] (outP rSh fun x => ShOk x)
  have hsz : ∀ z ∈ ([12, 4] : List Int), PZ z := by
    intro z hz
    simp at hz
    unfold PZ
    omega
  refine ss_set 2 scSh.nd (ev_cal G2 hr (lawCell ns k, [12, 4]) (es_cons (ev_cal G1 hr (ns, k) (es_cons (ev 0) (es_cons (ev 1) es_nil)) (by show k ≤ 1000; omega)) (es_cons (EO.fz (eo_lst (c := rInt) (xs := [12, 4]) (ea_cons ev_int (ea1 ev_int)) (by decide))) es_nil)) ⟨hsz, by show 2 ≤ 1000; decide⟩) ?_
  generalize hsh : digits (lawCell ns k) [12, 4] = sh
  have D : Digs sh [12, 4] := hsh ▸ digits_ok hsz
  clear hsh
  obtain ⟨s0, s0a, s0b⟩ := D.get (i := 0) (by decide)
  obtain ⟨s1, s1a, s1b⟩ := D.get (i := 1) (by decide)
  generalize sh.getD 0 0 = d0 at s0 s0a s0b
  generalize sh.getD 1 0 = d1 at s1 s1a s1b
  replace s0b : d0 < 12 := s0b
  replace s1b : d1 < 4 := s1b
  have pr : ∀ {X : Cx} {Γ : List Sl}, True := trivial
  obtain ⟨kd, hkd⟩ : ∃ kd, kd = shKs.getD d0.toNat ([], 0) := ⟨_, rfl⟩
  have hkm : kd ∈ shKs := by
    rw [hkd, List.getD_eq_getElem?_getD, List.getElem?_eq_getElem (show d0.toNat < shKs.length by show d0.toNat < 12; omega)]
    exact List.getElem_mem _
  obtain ⟨hk1, hk2, hk3⟩ := shKs_ok kd hkm
  have hpm : shPs.getD d1.toNat 0 ∈ shPs := by
    rw [List.getD_eq_getElem?_getD, List.getElem?_eq_getElem (show d1.toNat < shPs.length by show d1.toNat < 4; omega)]
    exact List.getElem_mem _
  obtain ⟨hp1, hp2⟩ := shPs_ok _ hpm
  refine ss_set 3 scSh.nd (x := kd) (EV.cast (ev_ixL (EL.of (EO.fz (eo_lst (c := r2 rTx rInt) (xs := shKs) (ea_cons (ev_tup2 (ev_str [110, 121]) ev_int) (ea_cons (ev_tup2 (ev_str [110, 121]) ev_int) (ea_cons (ev_tup2 (ev_str [97, 98, 99]) ev_int) (ea_cons (ev_tup2 (ev_str [110, 121]) ev_int) (ea_cons (ev_tup2 (ev_str [97, 98]) ev_int) (ea_cons (ev_tup2 (ev_str [110, 121]) ev_int) (ea_cons (ev_tup2 (ev_str [110, 121]) ev_int) (ea_cons (ev_tup2 (ev_str [97, 98]) ev_int) (ea_cons (ev_tup2 (ev_str [97, 98, 99]) ev_int) (ea_cons (ev_tup2 (ev_str [110, 121]) ev_int) (ea_cons (ev_tup2 (ev_str [97, 98]) ev_int) (ea1 (ev_tup2 (ev_str [97, 98, 99, 100]) ev_int))))))))))))) (by decide)))) (ev_ixL (EL.of (ev 2)) ev_int (atI_nat' (n := 0) rfl s0)) (pick_at _ ([], 0) s0a (by show d0 < 12; omega))) hkd.symm) ?_
  obtain ⟨ans, wd⟩ := kd
  dsimp only at hk1 hk2 hk3
  have hal := (isAns_iff hk1).1
  refine ss_set 4 scSh.nd (x := shPs.getD d1.toNat 0) (ev_ixL (EL.of (EO.fz (eo_lst (c := rInt) (xs := shPs) (ea_cons ev_int (ea_cons ev_int (ea_cons ev_int (ea1 ev_int)))) (by decide)))) (ev_ixL (EL.of (ev 2)) ev_int (atI_nat' (n := 1) rfl s1)) (pick_at _ 0 s1a (by show d1 < 4; omega))) ?_
  generalize shPs.getD d1.toNat 0 = pl at hp1 hp2
  refine ss_if (eb_gt (ev_mul (ev_lenS B.len (ev_fst2 (x := ans) (y := wd) (ev 3)) (by omega)) (ev_snd2 (x := ans) (y := wd) (ev 3)) (.inr ⟨by omega, by omega⟩)) ev_int) (fun _ => ?_) (fun _ => ss_nil ?_)
  · refine ss_set 4 scSh.nd (ev_min2 rfl B.min (ev 4) ev_int) (ss_nil ?_)
    refine ss_ret (ev_lst3 (ev_fst2 (x := ans) (y := wd) (ev 3)) (ev_snd2 (x := ans) (y := wd) (ev 3)) (ev 4)) ⟨wd.toNat, (min pl 2).toNat, ?_, ?_, hk1, ?_, ?_, ?_, ?_⟩
    · show wd = _
      omega
    · show min pl 2 = _
      omega
    all_goals omega
  · refine ss_ret (ev_lst3 (ev_fst2 (x := ans) (y := wd) (ev 3)) (ev_snd2 (x := ans) (y := wd) (ev 3)) (ev 4)) ⟨wd.toNat, pl.toNat, ?_, ?_, hk1, ?_, ?_, ?_, ?_⟩
    · show wd = _
      omega
    · show pl = _
      omega
    all_goals omega
end
end Q

set_option Elab.async false
set_option linter.all false
set_option maxRecDepth 100000
set_option maxHeartbeats 4000000
namespace Q
open PySem PySem.Spec PyProof.Rows L2 Z
theorem ordsM_succ (n : Nat) : ordsM (n + 1) = ordS (ordsM n) n := by
  unfold ordsM
  rw [rng_succ, List.foldl_append]
  rfl
theorem ordsM_mem : ∀ {n : Nat} {o : List Int}, o ∈ ordsM n → o.length = n ∧ ∀ k ∈ o, 0 ≤ k ∧ k < (n : Int)
  | 0, o, h => by
    have : o = [] := List.mem_singleton.mp h
    subst this
    exact ⟨rfl, fun k hk => by cases hk⟩
  | n + 1, o, h => by
    rw [ordsM_succ] at h
    obtain ⟨c, hc, h⟩ := List.mem_flatMap.mp h
    obtain ⟨pl, hpl, rfl⟩ := List.mem_map.mp h
    obtain ⟨h1, h2⟩ := ordsM_mem hc
    have := rng_mem.mp hpl
    refine ⟨by simp; omega, fun k hk => ?_⟩
    rcases List.mem_append.mp hk with hk | hk
    · rcases List.mem_append.mp hk with hk | hk
      · have := h2 k (List.mem_of_mem_take hk)
        omega
      · rw [List.mem_singleton] at hk
        omega
    · have := h2 k (List.mem_of_mem_drop hk)
      omega
theorem ordsM_len : ∀ n : Nat, n ≤ 4 → 0 < (ordsM n).length ∧ (ordsM n).length ≤ 24 := by decide
/-- the view that an order shows -/
def viewO (E : Bag) (o : List Int) : Bag × Int := (srtD dKd ((o.take (o.length - 1)).map fun k => E.getD k.toNat (0, [])), (E.getD (o.getD (o.length - 1) 0).toNat (0, [])).1)
abbrev TabR := List ((Bag × Int) × Rat)
def tabR (D : TabR) : List ((Bag × Int) × (Int × Int)) := D.map fun p => (p.1, ofR p.2)
def boS (x : Rat) (E : Bag) (D : TabR) (o : List Int) : TabR := dput D (viewO E o) ((dlook D (viewO E o)).getD 0 + x)
def boE (f : Bag → Int) (D0 : Int) (D : TabR) (E : Bag) : TabR := (ordsM E.length).foldl (boS (frac (f E) D0) E) D
def boM (f : Bag → Int) (D0 : Int) (Es : List Bag) : TabR := Es.foldl (boE f D0) []
theorem tabR_look (v : Bag × Int) : ∀ D : TabR, dlook (tabR D) v = (dlook D v).map ofR
  | [] => rfl
  | p :: D => by
    by_cases h : p.1 = v
    · rw [dlook_pos h]
      exact dlook_pos (p := (p.1, ofR p.2)) h
    · rw [dlook_neg h, ← tabR_look v D]
      exact dlook_neg (p := (p.1, ofR p.2)) h
theorem tabR_put (v : Bag × Int) (q : Rat) (D : TabR) : dput (tabR D) v (ofR q) = tabR (dput D v q) := by
  cases h : dlook D v with
  | none =>
    rw [dput_fresh h, dput_fresh (by rw [tabR_look, h]; rfl)]
    simp [tabR]
  | some y =>
    have e1 : (dlook D v).isSome = true := by rw [h]; rfl
    have e2 : (dlook (tabR D) v).isSome = true := by rw [tabR_look, h]; rfl
    rw [dput_old e1, dput_old e2]
    unfold tabR
    rw [List.map_map, List.map_map]
    refine List.map_congr_left fun p _ => ?_
    show (if p.1 = v then (p.1, ofR q) else (p.1, ofR p.2)) = ((if p.1 = v then (p.1, q) else p).1, ofR (if p.1 = v then (p.1, q) else p).2)
    split <;> rfl
/-- all that stands in it is so many D0-ths -/
def Dth (D0 : Int) (D : TabR) : Prop := ∀ v, ∃ A : Int, (dlook D v).getD 0 = frac A D0
theorem frac_same {a b d : Int} (hd : d ≠ 0) : frac a d + frac b d = frac (a + b) d := by
  rw [frac_add hd hd]
  refine (frac_iff (Int.mul_ne_zero hd hd) hd).mpr ?_
  rw [← Int.add_mul, Int.mul_assoc]
theorem Dth.put {D0 : Int} (h0 : D0 ≠ 0) {D : TabR} (h : Dth D0 D) (v : Bag × Int) (x : Int) : Dth D0 (dput D v ((dlook D v).getD 0 + frac x D0)) := fun u => by
  rw [dlook_put]
  by_cases e : u = v
  · rw [if_pos e]
    obtain ⟨A, hA⟩ := h v
    exact ⟨A + x, by rw [hA]; exact frac_same h0⟩
  · rw [if_neg e]
    exact h u
theorem dth_pr {D0 : Int} (h0 : 0 < D0) (h1 : D0 < 2 ^ 64) (A : Int) : 0 < (ofR (frac A D0)).2 ∧ (ofR (frac A D0)).2 < 2 ^ 64 := by
  refine ⟨ofR_den_pos _, ?_⟩
  have : (frac A D0).den ≤ D0.natAbs := by
    show (Rat.divInt A D0).den ≤ _
    rw [Rat.den_divInt, if_neg (by omega)]
    exact Nat.div_le_self _ _
  show ((frac A D0).den : Int) < _
  omega
end Q

set_option Elab.async false
set_option linter.all false
set_option maxRecDepth 100000
set_option maxHeartbeats 4000000
namespace Q
open PySem PySem.Spec PyProof.Rows L2 Z
abbrev Fnd := List (Bag × Int)
def fV (fo : Fnd) (E : Bag) : Int := (dlook fo E).getD 0
def whM (fo : Fnd) : Int := ((fo.map (·.1)).map (fV fo)).sum
/-- what is found: bags of p examples, with weights -/
structure FO (p : Nat) (fo : Fnd) : Prop where
  nd : (fo.map (·.1)).Nodup
  p1 : 1 ≤ p
  p4 : p ≤ 4
  len : ∀ E ∈ fo.map (·.1), E.length = p
  pos : 0 < whM fo
  le : whM fo < 2 ^ 50
  sz : fo.length ≤ 10000
section
variable (P : Program) (w : World) (K : PySem.W.Frag) (mg : Str → Option Value) (base : Heap)
abbrev T_byO : Prop := Df P w K mg base 4 "_law_by_orders" (fun a : Fnd × Nat => [.v (rND P w nBg rInt) a.1]) (fun a => FO a.2 a.1) (fun _ => rND P w nVw rRt) (fun a => tabR (boM (fV a.1) (whM a.1 * ((ordsM a.2).length : Int)) (a.1.map (·.1))))
end
theorem fV_some {fo : Fnd} {E : Bag} (h : E ∈ fo.map (·.1)) : dlook fo E = some (fV fo E) := by
  have := dlook_isSome.mpr h
  unfold fV
  cases e : dlook fo E with
  | none => rw [e] at this; cases this
  | some y => rfl
section
variable {P : Program} {w : World} {K : PySem.W.Frag} {mg : Str → Option Value} {base : Heap}
abbrev sBo : Stmt := topS 41
theorem scBo : FnScope ["found", "whole", "told", "examples", "orders", "order", "last", "view", "k"] ["found"] (defScope sBo) := ⟨rfl, rfl, rfl, by decide +kernel, rfl, by decide +kernel, by decide +kernel⟩
theorem boE_len (x : Rat) (E : Bag) : ∀ (os : List (List Int)) (D : TabR), (os.foldl (boS x E) D).length ≤ D.length + os.length := by
  intro os
  induction os with
  | nil => intro D; simp
  | cons o os ih =>
    intro D
    have h1 := ih (boS x E D o)
    have h2 := dput_len D (viewO E o) ((dlook D (viewO E o)).getD 0 + x)
    simp only [List.foldl_cons, List.length_cons]
    unfold boS at h1 ⊢
    omega
theorem D_byO (F : Fn0 K mg "_law_by_orders" sBo []) (B : Bt mg) (G1 : T_orders P w K mg base) (G2 : T_ratio P w K mg base "_law_ratio") (G3 : T_added P w K mg base) : T_byO P w K mg base := by
  refine F.df scBo (fun _ => rfl) (by decide) (fun _ _ _ _ _ _ us hl => match us, hl with | [_], _ => rfl) fun ⟨fo, p⟩ hz f cdv A outer s H E hr => ?_
  replace hz : FO p fo := hz
  have hp1 := hz.p1
  have hp4 := hz.p4
  have hsz := hz.sz
  have hw0 := hz.pos
  have hw1 := hz.le
  obtain ⟨ho1, ho2⟩ := ordsM_len p hp4
  have hD : 0 < whM fo * ((ordsM p).length : Int) ∧ whM fo * ((ordsM p).length : Int) < 2 ^ 64 := by
    refine ⟨Int.mul_pos hw0 (by omega), ?_⟩
    have : whM fo * ((ordsM p).length : Int) ≤ 2 ^ 50 * 24 := Int.mul_le_mul (by omega) (by omega) (by omega) (by decide)
    omega
  have hkl : (fo.map (·.1)).length ≤ 16777216 := by rw [List.length_map]; omega
  show SS _ _ [.v (rND P w nBg rInt) fo, .un, .un, .un, .un, .un, .un, .un, .un] (outR (rND P w nVw rRt) (tabR (boM (fV fo) (whM fo * ((ordsM p).length : Int)) (fo.map (·.1)))))
  refine ss_set 1 scBo.nd (x := whM fo) (ev_sum rfl B.sum (EL.of (EO.fz (eo_lc0 (fV fo) scBo.nd (it_N (N := nBg) (c := rInt) (ev 0)) (own := [("examples", 3)]) (blkOk_by (by kernel_rfl)) (fun _ _ _ _ _ => gz_name 3 scBo.nd) (by decide) (fun s H C cl fp E0 hE => ev_getN (N := nBg) (c := rInt) hr (EN.of (ev 0)) (ev 3) (fV_some hE)) hkl)))) ?_
  refine ss_dictN (N := nVw) (c := rRt) 2 scBo.nd fun l => ?_
  generalize hDD : whM fo * ((ordsM p).length : Int) = D0 at *
  refine ss_forF (boE (fV fo) D0) [] (fun D => [.v (rND P w nBg rInt) fo, .v rInt (whM fo), sN P w l nVw rRt (tabR D), .un, .un, .un, .un, .un, .un]) (fun i D => D.length ≤ i * 24 ∧ Dth D0 D) (it_N (N := nBg) (c := rInt) (ev 0)) (gz_name 3 scBo.nd) ⟨.inr rfl, .inr rfl, .inr rfl, .inr rfl, .inr rfl, .inr rfl, .inr rfl, .inr rfl, .inr rfl, trivial⟩ ⟨Nat.zero_le _, fun v => ⟨0, by show (0 : Rat) = Rat.divInt 0 D0; rw [Rat.zero_divInt]⟩⟩ (fun i E0 D hx hD2 => ?_) (fun i E0 D hx hD2 => ?_) (fun _ => ss_fzN 2 rfl (ss_ret (ev 2) rfl))
  · have hE := hz.len E0 (List.mem_of_getElem? hx)
    have h1 := boE_len (frac (fV fo E0) D0) E0 (ordsM E0.length) D
    rw [hE] at h1
    refine ⟨by unfold boE; rw [hE]; omega, ?_⟩
    have : ∀ (os : List (List Int)) (D : TabR), Dth D0 D → Dth D0 (os.foldl (boS (frac (fV fo E0) D0) E0) D) := by
      intro os
      induction os with
      | nil => intro D h; exact h
      | cons o os ih => intro D h; exact ih _ (h.put (by omega) _ _)
    exact this _ D hD2.2
  · have hEm := List.mem_of_getElem? hx
    have hE := hz.len E0 hEm
    have hi := (List.getElem?_eq_some_iff.mp hx).1
    rw [List.length_map] at hi
    refine ss_set 4 scBo.nd (ev_cal G1 (hr.mono (by decide)) E0.length (es_cons (ev_lenT B.len (ev 3)) es_nil) (by show E0.length ≤ 4; omega)) ?_
    refine ss_forF (boS (frac (fV fo E0) D0) E0) D (fun D => [.v (rND P w nBg rInt) fo, .v rInt (whM fo), sN P w l nVw rRt (tabR D), .v (rT rKd) E0, .v (rL (rT rInt)) (ordsM E0.length), .un, .un, .un, .un]) (fun j D => D.length ≤ i * 24 + j ∧ Dth D0 D) (it_L (ev 4)) (gz_name 5 scBo.nd) ⟨.inr rfl, .inr rfl, .inr rfl, .inr rfl, .inr rfl, .inr rfl, .inr rfl, .inr rfl, .inr rfl, trivial⟩ ⟨by omega, hD2.2⟩ (fun j o D hy hj => ?_) (fun j o D hy hj => ?_) (fun _ => ss_nil ⟨.inr rfl, .inr rfl, .inr rfl, .inl rfl, .inl rfl, .inr rfl, .inr rfl, .inr rfl, .inr rfl, trivial⟩)
    · have h2 := dput_len D (viewO E0 o) ((dlook D (viewO E0 o)).getD 0 + frac (fV fo E0) D0)
      exact ⟨by unfold boS; omega, hj.2.put (by omega) _ _⟩
    · have hjl := (List.getElem?_eq_some_iff.mp hy).1
      obtain ⟨hol, hok⟩ := ordsM_mem (List.mem_of_getElem? hy)
      have hlo : o[o.length - 1]? = some (o.getD (o.length - 1) 0) := getD_some _ (by omega)
      have hlk := hok _ (List.mem_of_getElem? hlo)
      refine ss_set 6 scBo.nd (x := E0.getD (o.getD (o.length - 1) 0).toNat (0, [])) (ev_ixT (ev 3) (ev_ixT (ev 5) (ev_sub (ev_lenT B.len (ev 5)) ev_int) (atI_nat' (n := o.length - 1) (by omega) hlo)) (pick_at _ (0, []) hlk.1 (by omega))) ?_
      refine ss_set 7 scBo.nd (x := viewO E0 o) (ev_tup2 (ev_tupL B.tuple (EL.of (EO.fz (eo_sortD dKd al_kd hr B.sorted (EL.of (EO.fz (eo_lc0 (fun k : Int => E0.getD k.toNat (0, [])) scBo.nd (it_T (EV.cast (x' := o.take (o.length - 1)) (ev_cutT (ev 5) so_none (so (o.length - 1) (ev_sub (ev_lenT B.len (ev 5)) ev_int) (by omega))) (cut_to _ _))) (own := [("k", 8)]) (blkOk_by (by kernel_rfl)) (fun _ _ _ _ _ => gz_name 8 scBo.nd) (by decide) (fun s H C cl fp k hk => ev_ixT (ev 3) (ev 8) (pick_at _ (0, []) (hok k (List.mem_of_mem_take hk)).1 (by have := (hok k (List.mem_of_mem_take hk)).2; omega))) (by rw [List.length_take]; omega)))) (.inl fun dd hd => by obtain ⟨x, _, rfl⟩ := List.mem_map.mp hd; exact ⟨_, _, rfl⟩))))) (ev_fst2 (x := (E0.getD (o.getD (o.length - 1) 0).toNat (0, [])).1) (y := (E0.getD (o.getD (o.length - 1) 0).toNat (0, [])).2) (ev 6))) ?_
      obtain ⟨A0, hA0⟩ := hj.2 (viewO E0 o)
      have hc := dth_pr hD.1 hD.2 A0
      have hq := dth_pr hD.1 hD.2 (fV fo E0)
      have hcur : (dlook (tabR D) (viewO E0 o)).getD (0, 1) = ofR (frac A0 D0) := by
        rw [tabR_look, ← hA0]
        cases dlook D (viewO E0 o) with
        | none => rfl
        | some y => rfl
      refine ss_putN (N := nVw) (c := rRt) 2 hr (x := ofR ((dlook D (viewO E0 o)).getD 0 + frac (fV fo E0) D0)) (ev_cal G3 hr (ofR (frac A0 D0), ofR (frac (fV fo E0) D0)) (es_cons (EV.cast (ev_getOrN (N := nVw) (c := rRt) hr (en 2) (ev 7) (ev_tup2 ev_int ev_int) ⟨rfl, rfl, rfl, rfl⟩) hcur) (es_cons (ev_cal G2 (hr.mono (by decide)) (fV fo E0, D0) (es_cons (ev_getN (N := nBg) (c := rInt) hr (EN.of (ev 0)) (ev 3) (fV_some hEm)) (es_cons (EV.cast (ev_mul (ev 1) (ev_lenL B.len (EL.of (ev 4))) (.inr ⟨by rw [hE]; omega, by rw [hE]; omega⟩)) (by rw [hE, hDD])) es_nil)) (sm_of hD.1 hD.2)) es_nil)) ⟨hc, hq⟩ ?_) (ev 7) rfl ?_ ?_
      · show ofR (frac _ _) = _
        have n1 : (ofR (frac A0 D0)).2 ≠ 0 := fun e => by have := hc.1; rw [e] at this; omega
        have n2 : (ofR (frac (fV fo E0) D0)).2 ≠ 0 := fun e => by have := hq.1; rw [e] at this; omega
        show ofR (frac ((ofR (frac A0 D0)).1 * (ofR (frac (fV fo E0) D0)).2 + (ofR (frac (fV fo E0) D0)).1 * (ofR (frac A0 D0)).2) ((ofR (frac A0 D0)).2 * (ofR (frac (fV fo E0) D0)).2)) = _
        rw [← frac_add n1 n2, ofR_frac, ofR_frac, hA0]
      · show (tabR D).length < _
        unfold tabR
        rw [List.length_map]
        have : (ordsM E0.length).length ≤ 24 := by rw [hE]; exact ho2
        omega
      · rw [tabR_put]
        exact ss_nil ⟨.inr rfl, .inr rfl, .inr rfl, .inr rfl, .inr rfl, .inl rfl, .inl rfl, .inl rfl, .inr rfl, trivial⟩
end
end Q

set_option Elab.async false
set_option linter.all false
set_option maxRecDepth 100000
set_option maxHeartbeats 4000000
namespace Q
open PySem PySem.Spec PyProof.Rows L2 Z
theorem dsum_map {D : Fnd} {k : Bag} {y : Int} : (D.map (·.1)).Nodup → (dlook D k).isSome = true → ((D.map fun kv => if kv.1 = k then (kv.1, y) else kv).map (·.2)).sum = (D.map (·.2)).sum - (dlook D k).getD 0 + y := by
  induction D with
  | nil => intro _ h; cases h
  | cons q r ih =>
    intro nd h
    simp only [List.map_cons, List.nodup_cons] at nd
    by_cases e : q.1 = k
    · rw [dlook_pos e]
      have hn : (r.map fun kv => if kv.1 = k then (kv.1, y) else kv) = r := by
        refine (List.map_congr_left fun kv hkv => ?_).trans (List.map_id r)
        rw [if_neg fun e2 => nd.1 (by rw [e, ← e2]; exact List.mem_map_of_mem hkv)]
        rfl
      simp only [List.map_cons, List.sum_cons, if_pos e, hn, Option.getD_some]
      omega
    · rw [dlook_neg e] at h ⊢
      simp only [List.map_cons, List.sum_cons, if_neg e]
      rw [ih nd.2 h]
      omega
theorem dsum_put {D : Fnd} {k : Bag} {y : Int} (nd : (D.map (·.1)).Nodup) : ((dput D k y).map (·.2)).sum = (D.map (·.2)).sum - (dlook D k).getD 0 + y := by
  cases e : (dlook D k).isSome with
  | true => rw [dput_old e]; exact dsum_map nd e
  | false =>
    have e2 : dlook D k = none := by cases h : dlook D k with
      | none => rfl
      | some z => rw [h] at e; cases e
    rw [dput_fresh e2, e2]
    simp
/-- found bags so far: sum at most b, at most n entries -/
structure FG (kn : List Kd) (p : Nat) (D : Fnd) (b : Int) (n : Nat) : Prop where
  nd : (D.map (·.1)).Nodup
  len : ∀ E ∈ D.map (·.1), E.length = p
  mem : ∀ E ∈ D.map (·.1), ∀ x ∈ E, x ∈ kn
  srt : ∀ E ∈ D.map (·.1), SrK E
  pos : ∀ q ∈ D, 1 ≤ q.2
  tot : (D.map (·.2)).sum ≤ b
  sz : D.length ≤ n
theorem FG.nil {kn : List Kd} {p : Nat} : FG kn p [] 0 0 := ⟨List.nodup_nil, fun _ h => (List.not_mem_nil h).elim, fun _ h => (List.not_mem_nil h).elim, fun _ h => (List.not_mem_nil h).elim, fun _ h => (List.not_mem_nil h).elim, Int.le_refl _, Nat.le_refl _⟩
theorem FG.put {kn : List Kd} {p : Nat} {D : Fnd} {b : Int} {n : Nat} (h : FG kn p D b n) {E : Bag} {x : Int} (h1 : E.length = p) (h2 : ∀ x ∈ E, x ∈ kn) (h3 : SrK E) (h4 : 1 ≤ x) : FG kn p (dput D E ((dlook D E).getD 0 + x)) (b + x) (n + 1) := by
  have hk : ∀ F ∈ (dput D E ((dlook D E).getD 0 + x)).map (·.1), F ∈ D.map (·.1) ∨ F = E := by
    intro F hF
    rw [dput_keys] at hF
    split at hF
    · exact .inl hF
    · rcases List.mem_append.mp hF with h | h
      · exact .inl h
      · exact .inr (List.mem_singleton.mp h)
  have hg : 0 ≤ (dlook D E).getD 0 := by
    cases e : dlook D E with
    | none => exact Int.le_refl _
    | some v => have := h.pos _ (dlook_mem e); show (0 : Int) ≤ v; simp at this; omega
  refine ⟨dput_nodup _ _ h.nd, fun F hF => ?_, fun F hF => ?_, fun F hF => ?_, fun q hq => ?_, ?_, ?_⟩
  · rcases hk F hF with h5 | rfl
    · exact h.len F h5
    · exact h1
  · rcases hk F hF with h5 | rfl
    · exact h.mem F h5
    · exact h2
  · rcases hk F hF with h5 | rfl
    · exact h.srt F h5
    · exact h3
  · have nd2 := dput_nodup E ((dlook D E).getD 0 + x) h.nd
    have h6 := dlook_of_mem nd2 hq
    rw [dlook_put] at h6
    split at h6
    · have h7 := Option.some.inj h6
      omega
    · exact h.pos _ (dlook_mem h6)
  · rw [dsum_put h.nd]
    have := h.tot
    omega
  · have := dput_len D E ((dlook D E).getD 0 + x)
    have := h.sz
    omega
theorem whM_eq {D : Fnd} (nd : (D.map (·.1)).Nodup) : whM D = (D.map (·.2)).sum := by
  unfold whM
  rw [List.map_map]
  congr 1
  exact List.map_congr_left fun q hq => by
    show (dlook D q.1).getD 0 = q.2
    rw [dlook_of_mem nd hq]
    rfl
theorem sum_pos : ∀ {l : List Int}, (∀ x ∈ l, 1 ≤ x) → l ≠ [] → 0 < l.sum
  | [], _, h => (h rfl).elim
  | [x], h, _ => by have := h x (List.mem_singleton.mpr rfl); simp; omega
  | x :: y :: r, h, _ => by
    have h1 := h x List.mem_cons_self
    have h2 := sum_pos (l := y :: r) (fun z hz => h z (List.mem_cons_of_mem _ hz)) (by simp)
    rw [List.sum_cons]
    omega
theorem FG.fo {kn : List Kd} {p : Nat} {D : Fnd} {b : Int} {n : Nat} (h : FG kn p D b n) (hne : D ≠ []) (hp : 1 ≤ p ∧ p ≤ 4) (hb : b < 2 ^ 50) (hn : n ≤ 10000) : FO p D := by
  have h1 := whM_eq h.nd
  have h2 := h.tot
  refine ⟨h.nd, hp.1, hp.2, h.len, ?_, by omega, Nat.le_trans h.sz hn⟩
  rw [h1]
  exact sum_pos (fun x hx => by obtain ⟨q, hq, rfl⟩ := List.mem_map.mp hx; exact h.pos q hq) (by simp [hne])
end Q

set_option Elab.async false
set_option linter.all false
set_option maxRecDepth 100000
set_option maxHeartbeats 4000000
namespace Q
open PySem PySem.Spec PyProof.Rows L2 Z
/-- a found source -/
def FS (kn : List Kd) (p : Nat) (fo : Fnd) : Prop := fo ≠ [] ∧ ∃ b n, FG kn p fo b n ∧ b < 2 ^ 50 ∧ n ≤ 10000
section
variable (P : Program) (w : World) (K : PySem.W.Frag) (mg : Str → Option Value) (base : Heap)
abbrev T_lsrc : Prop := Dfp P w K mg base 4 "_law_source" (fun a : List Int × Nat × List Nat × Nat × Nat => [.v rScr a.1, .v rInt (a.2.1 : Int), .v rTx a.2.2.1, .v rInt (a.2.2.2.1 : Int), .v rInt (a.2.2.2.2 : Int)]) (fun a => a.2.1 ≤ 900 ∧ isAns a.2.2.1 = true ∧ (1 ≤ a.2.2.2.1 ∧ a.2.2.2.1 ≤ 4) ∧ 1 ≤ a.2.2.2.2 ∧ a.2.2.2.2 ≤ 3) (fun _ => rL2 rAny (rND P w nBg rInt)) (fun a x => FS (kindsM a.2.2.1 a.2.2.2.1) a.2.2.2.2 x.2)
end
section
variable {P : Program} {w : World} {K : PySem.W.Frag} {mg : Str → Option Value} {base : Heap}
def urnS (f : List (List Int)) : List (List Int) := f.flatMap fun d => ((rng 0 5).filter fun q => !decide (q ∈ d)).map fun q => d ++ [q]
def urnM (p : Nat) : List (List Int) := (rng 0 p).foldl (fun f _ => urnS f) [[]]
theorem urn_ok : ∀ p, p ≤ 3 → urnM p ≠ [] ∧ (urnM p).length ≤ 60 ∧ ∀ d ∈ urnM p, d.length = p ∧ ∀ q ∈ d, 0 ≤ q ∧ q < 5 := by decide +kernel
theorem urnS_len (f : List (List Int)) : (urnS f).length ≤ f.length * 5 := by
  unfold urnS
  rw [List.length_flatMap]
  induction f with
  | nil => simp
  | cons d r ih =>
    have h := List.length_filter_le (fun q => !decide (q ∈ d)) (rng 0 5)
    rw [rng_len] at h
    rw [List.map_cons, List.sum_cons, List.length_map, List.length_cons]
    omega
theorem urnS_lens {f : List (List Int)} {i : Nat} (h : ∀ d ∈ f, d.length ≤ i) : ∀ d ∈ urnS f, d.length ≤ i + 1 := by
  intro d hd
  obtain ⟨c, hc, h2⟩ := List.mem_flatMap.mp hd
  obtain ⟨q, _, rfl⟩ := List.mem_map.mp h2
  have := h c hc
  simp
  omega
def pkM (td : List Kd) (d : List Int) : Bag := srtD dKd (d.map fun q => td.getD q.toNat (0, []))
def urF (td : List Kd) (D : Fnd) (d : List Int) : Fnd := dput D (pkM td d) ((dlook D (pkM td d)).getD 0 + 1)
abbrev Thr := Bag × Int
def diS (ks : List Kd) (kw : List (Kd × Int)) (f : List Thr) : List Thr := f.flatMap fun t => ks.map fun e => (t.1 ++ [e], t.2 * (dlook kw e).getD 0)
def diF (D : Fnd) (t : Thr) : Fnd := dput D (srtD dKd t.1) ((dlook D (srtD dKd t.1)).getD 0 + t.2)
/-- throws after i turns -/
structure DI (kn : List Kd) (i : Nat) (f : List Thr) : Prop where
  ne : f ≠ []
  le : f.length ≤ 5 ^ i
  ok : ∀ t ∈ f, t.1.length = i ∧ (∀ x ∈ t.1, x ∈ kn) ∧ 1 ≤ t.2 ∧ t.2 ≤ 5 ^ i
theorem diS_len (ks : List Kd) (kw : List (Kd × Int)) (f : List Thr) : (diS ks kw f).length = f.length * ks.length := by
  unfold diS
  rw [List.length_flatMap]
  induction f with
  | nil => simp
  | cons d r ih => rw [List.map_cons, List.sum_cons, List.length_map, List.length_cons, ih, Nat.succ_mul, Nat.add_comm]
theorem DI.step {kn : List Kd} {i : Nat} {f : List Thr} (h : DI kn i f) {ks : List Kd} {kw : List (Kd × Int)} (h1 : ks ≠ []) (h2 : ks.length ≤ 5) (h3 : ∀ e ∈ ks, e ∈ kn ∧ 1 ≤ (dlook kw e).getD 0 ∧ (dlook kw e).getD 0 ≤ 5) : DI kn (i + 1) (diS ks kw f) := by
  have hl := diS_len ks kw f
  have a := List.length_pos_iff.mpr h.ne
  have b := List.length_pos_iff.mpr h1
  refine ⟨List.length_pos_iff.mp (by rw [hl]; exact Nat.mul_pos a b), by rw [hl, Nat.pow_succ]; exact Nat.mul_le_mul h.le h2, fun t ht => ?_⟩
  obtain ⟨c, hc, hd⟩ := List.mem_flatMap.mp ht
  obtain ⟨e, he, rfl⟩ := List.mem_map.mp hd
  obtain ⟨c1, c2, c3, c4⟩ := h.ok c hc
  obtain ⟨e1, e2, e3⟩ := h3 e he
  refine ⟨by simp [c1], fun x hx => ?_, ?_, ?_⟩
  · rcases List.mem_append.mp hx with h | h
    · exact c2 x h
    · rw [List.mem_singleton.mp h]; exact e1
  · show 1 ≤ c.2 * _
    have := Int.mul_le_mul c3 e2 (by decide) (by omega)
    omega
  · show c.2 * _ ≤ 5 ^ (i + 1)
    have := Int.mul_le_mul c4 e3 (by omega) (by omega : (0 : Int) ≤ 5 ^ i)
    rw [Int.pow_succ]
    exact this
def kxM (kn : List Kd) (sh : List Int) (j : Int) : Kd := kn.getD (sh.getD (1 + j).toNat 0).toNat (0, [])
def kwS (kn : List Kd) (sh : List Int) (D : List (Kd × Int)) (j : Int) : List (Kd × Int) := dput D (kxM kn sh j) (1 + sh.getD (6 + j).toNat 0)
structure KW (kn : List Kd) (i : Nat) (D : List (Kd × Int)) : Prop where
  ne : 0 < i → D ≠ []
  sz : D.length ≤ i
  ok : ∀ e y, dlook D e = some y → e ∈ kn ∧ 1 ≤ y ∧ y ≤ 5
theorem KW.step {kn : List Kd} {sh : List Int} {i : Nat} {D : List (Kd × Int)} (h : KW kn i D) {j : Int} (h1 : kxM kn sh j ∈ kn) (h2 : 0 ≤ sh.getD (6 + j).toNat 0) (h3 : sh.getD (6 + j).toNat 0 < 5) : KW kn (i + 1) (kwS kn sh D j) := by
  refine ⟨fun _ e => ?_, ?_, fun e y hy => ?_⟩
  · have h4 : dlook (kwS kn sh D j) (kxM kn sh j) = some (1 + sh.getD (6 + j).toNat 0) := by unfold kwS; rw [dlook_put, if_pos rfl]
    rw [e] at h4
    cases h4
  · have := dput_len D (kxM kn sh j) (1 + sh.getD (6 + j).toNat 0)
    have := h.sz
    unfold kwS
    omega
  · unfold kwS at hy
    rw [dlook_put] at hy
    split at hy
    · next e2 => have := Option.some.inj hy; exact ⟨e2 ▸ h1, by omega, by omega⟩
    · exact h.ok e y hy
abbrev sSo : Stmt := topS 39
theorem scSo : FnScope ["script", "at", "answers", "width", "places", "kinds", "shape", "told", "found", "shown", "draws", "turn", "grown", "draw", "k", "known", "thrown", "throw", "example"] ["script", "at", "answers", "width", "places"] (defScope sSo) := ⟨rfl, rfl, rfl, by decide +kernel, rfl, by decide +kernel, by decide +kernel⟩
theorem D_lsrc (F : Fn0 K mg "_law_source" sSo []) (B : Bt mg) (G1 : T_cell P w K mg base) (G2 : T_digits P w K mg base) (G3 : T_lkinds P w K mg base) : T_lsrc P w K mg base := by
  refine F.dfp scSo (fun _ => rfl) (by decide) (fun _ _ _ _ _ _ us hl => match us, hl with | [_, _, _, _, _], _ => rfl) fun ⟨ns, k, ans, wd, p⟩ hz f cdv A outer s H E hr => ?_
  obtain ⟨h1, h2, h3, h4⟩ := hz
  dsimp only at h1 h2 h3 h4
  have hal := (isAns_iff h2).1
  show SS _ _ [.v rScr ns, .v rInt (k : Int), .v rTx ans, .v rInt (wd : Int), .v rInt (p : Int), .un, .un, .un, .un, .un, .un, .un, .un, .un, .un, .un, .un, .un, .un] (outP (rL2 rAny (rND P w nBg rInt)) fun x => FS (kindsM ans wd) p x.2)
  refine ss_set 5 scSo.nd (x := kindsM ans wd) (ev_cal G3 (hr.mono (by decide)) (ans, wd) (es_cons (ev 2) (es_cons (ev 3) es_nil)) ⟨by show ans.length ≤ 100; omega, by show wd ≤ 100; omega⟩) ?_
  have hkl := kindsM_len ans wd
  have hkb : 2 ≤ wd * ans.length ∧ wd * ans.length ≤ 16 := by
    constructor
    · exact Nat.le_trans (by omega) (Nat.mul_le_mul h3.1 hal.1)
    · exact Nat.le_trans (Nat.mul_le_mul h3.2 hal.2) (by omega)
  generalize hkn : kindsM ans wd = kn at *
  rw [← hkl] at hkb
  clear hkl hkn
  obtain ⟨n, hn⟩ : ∃ n : Int, n = (kn.length : Int) := ⟨_, rfl⟩
  have hsz : ∀ z ∈ ([3, n, n, n, n, n, 5, 5, 5, 5, 5] : List Int), PZ z := by
    intro z hz
    simp at hz
    unfold PZ
    omega
  refine ss_set 6 scSo.nd (ev_cal G2 (hr.mono (by decide)) (lawCell ns k, [3, n, n, n, n, n, 5, 5, 5, 5, 5]) (es_cons (ev_cal G1 (hr.mono (by decide)) (ns, k) (es_cons (ev 0) (es_cons (ev 1) es_nil)) (by show k ≤ 1000; omega)) (es_cons (EV.cast (EO.fz (eo_catL (EO.fz (eo_catL (EO.fz (eo_lst (c := rInt) (xs := [3]) (ea1 ev_int) (by decide))) (EO.fz (eo_rep 5 (EO.fz (eo_lst (c := rInt) (xs := [n]) (ea1 (EV.cast (ev_lenL B.len (EL.of (ev 5))) hn.symm)) (by simp))) ev_int rfl (by decide) (by simp))) (by simp))) (EO.fz (eo_rep 5 (EO.fz (eo_lst (c := rInt) (xs := [5]) (ea1 ev_int) (by decide))) ev_int rfl (by decide) (by simp))) (by simp))) (by simp)) es_nil)) ⟨hsz, by show 11 ≤ 1000; decide⟩) ?_
  generalize hsh : digits (lawCell ns k) [3, n, n, n, n, n, 5, 5, 5, 5, 5] = sh
  have D : Digs sh [3, n, n, n, n, n, 5, 5, 5, 5, 5] := hsh ▸ digits_ok hsz
  clear hsh
  obtain ⟨s0, s0a, s0b⟩ := D.get (i := 0) (by show 0 < 11; decide)
  have hk1 : ∀ j ∈ rng 0 5, atI sh (1 + j) = some (sh.getD (1 + j).toNat 0) ∧ 0 ≤ sh.getD (1 + j).toNat 0 ∧ sh.getD (1 + j).toNat 0 < (kn.length : Int) := by
    intro j hj
    obtain ⟨j1, j2⟩ := rng_mem.mp hj
    obtain ⟨m, rfl⟩ : ∃ m : Nat, j = m := ⟨j.toNat, by omega⟩
    have e : (1 + (m : Int)).toNat = 1 + m := by omega
    obtain ⟨a, b, c⟩ := D.get (i := 1 + m) (by show 1 + m < 11; omega)
    rw [e]
    refine ⟨atI_nat' (n := 1 + m) (by omega) a, b, ?_⟩
    have hc : [3, n, n, n, n, n, 5, 5, 5, 5, 5].getD (1 + m) 1 = n := by
      have : m = 0 ∨ m = 1 ∨ m = 2 ∨ m = 3 ∨ m = 4 := by omega
      rcases this with rfl | rfl | rfl | rfl | rfl <;> rfl
    omega
  have hk6 : ∀ j ∈ rng 0 5, atI sh (6 + j) = some (sh.getD (6 + j).toNat 0) ∧ 0 ≤ sh.getD (6 + j).toNat 0 ∧ sh.getD (6 + j).toNat 0 < 5 := by
    intro j hj
    obtain ⟨j1, j2⟩ := rng_mem.mp hj
    obtain ⟨m, rfl⟩ : ∃ m : Nat, j = m := ⟨j.toNat, by omega⟩
    have e : (6 + (m : Int)).toNat = 6 + m := by omega
    obtain ⟨a, b, c⟩ := D.get (i := 6 + m) (by show 6 + m < 11; omega)
    rw [e]
    refine ⟨atI_nat' (n := 6 + m) (by omega) a, b, ?_⟩
    have hc : [3, n, n, n, n, n, 5, 5, 5, 5, 5].getD (6 + m) 1 = 5 := by
      have : m = 0 ∨ m = 1 ∨ m = 2 ∨ m = 3 ∨ m = 4 := by omega
      rcases this with rfl | rfl | rfl | rfl | rfl <;> rfl
    omega
  have hkm : ∀ j ∈ rng 0 5, kxM kn sh j ∈ kn := by
    intro j hj
    obtain ⟨_, b, c⟩ := hk1 j hj
    unfold kxM
    rw [List.getD_eq_getElem?_getD, List.getElem?_eq_getElem (show (sh.getD (1 + j).toNat 0).toNat < kn.length by omega)]
    exact List.getElem_mem _
  refine ss_setO 7 scSo.nd (eo_sortD dKd al_kd hr B.sorted (EL.of (EO.fz (eo_lc0 (kxM kn sh) scSo.nd (it_range 5 B.range ev_int rfl (by decide)) (own := [("k", 14)]) (blkOk_by (by kernel_rfl)) (fun _ _ _ _ _ => gz_name 14 scSo.nd) (by decide) (fun s H C cl fp j hj => ev_ixL (EL.of (ev 5)) (ev_ixL (EL.of (ev 6)) (ev_add ev_int (ev 14)) (hk1 j hj).1) (pick_at _ (0, []) (hk1 j hj).2.1 (hk1 j hj).2.2)) (by decide)))) (.inl fun dd hd => by obtain ⟨x, _, rfl⟩ := List.mem_map.mp hd; exact ⟨_, _, rfl⟩)) ?_
  refine ss_fz 7 rfl ?_
  obtain ⟨td, htd⟩ : ∃ td, td = srtD dKd ((rng 0 5).map (kxM kn sh)) := ⟨_, rfl⟩
  rw [← htd]
  have htp : td.Perm ((rng 0 5).map (kxM kn sh)) := htd ▸ srtD_perm _ _
  have ht1 : td.length = 5 := by rw [htp.length_eq]; rfl
  have ht2 : ∀ x ∈ td, x ∈ kn := fun x hx => by
    obtain ⟨j, hj, rfl⟩ := List.mem_map.mp (htp.mem_iff.mp hx)
    exact hkm j hj
  have ht3 : SrK td := htd ▸ srtD_pw _ _
  refine ss_dictN (N := nBg) (c := rInt) 8 scSo.nd fun l => ?_
  refine ss_if (eb_eqI (ev_ixL (EL.of (ev 6)) ev_int (atI_nat' (n := 0) rfl s0)) ev_int) (fun _ => ?_) (fun _ => ss_nil ?_)
  · refine ss_set 9 scSo.nd (x := td.take p) (ev_tupL B.tuple (EL.of (EV.cast (EO.fz (eo_cutL (EL.of (ev 7)) so_none (so p (ev 4) (by omega)))) (cut_to _ _)))) ?_
    refine ss_putN (N := nBg) (c := rInt) 8 hr ev_int (ev 9) rfl (Nat.zero_lt_of_lt (by decide : 0 < 16777216)) ?_
    refine ss_fzN 8 rfl ?_
    refine ss_ret (ev_lst2 (ev_tup2 (ev_str [100, 114, 97, 119, 110]) (ev 9)).any (ev 8)) ?_
    refine ⟨by simp [dput], 1, 1, ?_, by decide, by decide⟩
    exact FG.nil.put (E := td.take p) (x := 1) (by rw [List.length_take]; omega) (fun x hx => ht2 x (List.mem_of_mem_take hx)) (List.Pairwise.sublist (List.take_sublist _ _) ht3) (Int.le_refl _)
  refine ss_if (eb_eqI (ev_ixL (EL.of (ev 6)) ev_int (atI_nat' (n := 0) rfl s0)) ev_int) (fun _ => ?_) (fun _ => ss_nil ?_)
  · refine ss_setO 10 scSo.nd (eo_lst (c := rT rInt) (xs := [[]]) (ea1 (ev_tup (xs := []) ea_nil (Nat.zero_le _))) (by decide)) ?_
    refine ss_fz 10 rfl ?_
    refine ss_forF (fun f (_ : Int) => urnS f) [[]] (fun f => [.v rScr ns, .v rInt (k : Int), .v rTx ans, .v rInt (wd : Int), .v rInt (p : Int), .v (rL rKd) kn, .v (rL rInt) sh, .v (rL rKd) td, sN P w l nBg rInt [], .un, .v (rL (rT rInt)) f, .un, .un, .un, .un, .un, .un, .un, .un]) (fun i f => f.length ≤ 5 ^ i ∧ ∀ l ∈ f, l.length ≤ i) (it_range p B.range (ev 4) rfl (by omega)) (gz_name 11 scSo.nd) ⟨.inr rfl, .inr rfl, .inr rfl, .inr rfl, .inr rfl, .inr rfl, .inr rfl, .inr rfl, .inr rfl, .inr rfl, .inr rfl, .inr rfl, .inr rfl, .inr rfl, .inr rfl, .inr rfl, .inr rfl, .inr rfl, .inr rfl, trivial⟩ ⟨Nat.le_refl _, fun l hl => by rw [List.mem_singleton.mp hl]; exact Nat.le_refl _⟩ (fun i k f hx ⟨h1, h2⟩ => ⟨by rw [Nat.pow_succ]; exact Nat.le_trans (urnS_len f) (Nat.mul_le_mul_right 5 h1), urnS_lens h2⟩) (fun i j f hx hf => ?_) (fun _ => ?_)
    · obtain ⟨hi, rfl⟩ := rng_get.mp hx
      have hpw : 5 ^ i ≤ 5 ^ 3 := Nat.pow_le_pow_right (by decide) (by omega)
      obtain ⟨h1, h2⟩ := hf
      refine ss_setO 12 scSo.nd (eo_nil (c := rT rInt)) ?_
      refine ss_forF (fun acc (d : List Int) => acc ++ ((rng 0 5).filter fun q => !decide (q ∈ d)).map fun q => d ++ [q]) [] (fun acc => [.v rScr ns, .v rInt (k : Int), .v rTx ans, .v rInt (wd : Int), .v rInt (p : Int), .v (rL rKd) kn, .v (rL rInt) sh, .v (rL rKd) td, sN P w l nBg rInt [], .un, .v (rL (rT rInt)) f, .un, .ol (rT rInt) acc, .un, .un, .un, .un, .un, .un]) (fun j acc => acc.length ≤ j * 5) (it_L (ev 10)) (gz_name 13 scSo.nd) ⟨.inr rfl, .inr rfl, .inr rfl, .inr rfl, .inr rfl, .inr rfl, .inr rfl, .inr rfl, .inr rfl, .inr rfl, .inr rfl, .inl rfl, .inr rfl, .inr rfl, .inr rfl, .inr rfl, .inr rfl, .inr rfl, .inr rfl, trivial⟩ (Nat.zero_le _) (fun j b acc hy ha => ?_) (fun j b acc hy ha => ?_) (fun _ => ?_)
      · have h3 := List.length_filter_le (fun q => !decide (q ∈ b)) (rng 0 5)
        rw [rng_len] at h3
        rw [List.length_append, List.length_map]
        omega
      · have hbl := h2 b (List.mem_of_getElem? hy)
        have hjl := (List.getElem?_eq_some_iff.mp hy).1
        refine ss_forF (fun ac (q : Int) => if (!decide (q ∈ b)) = true then ac ++ [b ++ [q]] else ac) acc (fun ac => [.v rScr ns, .v rInt (k : Int), .v rTx ans, .v rInt (wd : Int), .v rInt (p : Int), .v (rL rKd) kn, .v (rL rInt) sh, .v (rL rKd) td, sN P w l nBg rInt [], .un, .v (rL (rT rInt)) f, .un, .ol (rT rInt) ac, .v (rT rInt) b, .un, .un, .un, .un, .un]) (fun m ac => ac.length ≤ j * 5 + m) (it_range 5 B.range ev_int rfl (by decide)) (gz_name 14 scSo.nd) ⟨.inr rfl, .inr rfl, .inr rfl, .inr rfl, .inr rfl, .inr rfl, .inr rfl, .inr rfl, .inr rfl, .inr rfl, .inr rfl, .inr rfl, .inr rfl, .inr rfl, .inr rfl, .inr rfl, .inr rfl, .inr rfl, .inr rfl, trivial⟩ ha (fun m q ac hz hm => by split <;> first | omega | (rw [List.length_append, List.length_singleton]; omega)) (fun m q ac hz hm => ?_) (fun _ => ?_)
        · obtain ⟨hm2, rfl⟩ := rng_get.mp hz
          refine ss_if (k := !decide (0 + (m : Int) ∈ b)) (eb_ninDT dInt (fun _ => rfl) hr (ev 14) (ev 13)) (fun h => ?_) (fun h => ?_)
          · refine ss_app 12 rfl (ev_catT (ev 13) (ev_tup (xs := [_]) (ea1 (ev 14)) (by simp)) (by simp; omega)) (by omega) (ss_nil (ss_nil ?_))
            rw [if_pos h]
            exact ⟨.inr rfl, .inr rfl, .inr rfl, .inr rfl, .inr rfl, .inr rfl, .inr rfl, .inr rfl, .inr rfl, .inr rfl, .inr rfl, .inr rfl, .inr rfl, .inr rfl, .inl rfl, .inr rfl, .inr rfl, .inr rfl, .inr rfl, trivial⟩
          · refine ss_nil (ss_nil ?_)
            rw [if_neg (by rw [h]; exact Bool.false_ne_true)]
            exact ⟨.inr rfl, .inr rfl, .inr rfl, .inr rfl, .inr rfl, .inr rfl, .inr rfl, .inr rfl, .inr rfl, .inr rfl, .inr rfl, .inr rfl, .inr rfl, .inr rfl, .inl rfl, .inr rfl, .inr rfl, .inr rfl, .inr rfl, trivial⟩
        · refine ss_nil ?_
          rw [foldl_filt]
          exact ⟨.inr rfl, .inr rfl, .inr rfl, .inr rfl, .inr rfl, .inr rfl, .inr rfl, .inr rfl, .inr rfl, .inr rfl, .inr rfl, .inr rfl, .inr rfl, .inl rfl, .inr rfl, .inr rfl, .inr rfl, .inr rfl, .inr rfl, trivial⟩
      · rw [foldl_appL (fun d : List Int => ((rng 0 5).filter fun q => !decide (q ∈ d)).map fun q => d ++ [q]), List.nil_append]
        refine ss_setO 10 scSo.nd (eo_listL B.list (el 12)) ?_
        refine ss_fz 10 rfl ?_
        exact ss_nil ⟨.inr rfl, .inr rfl, .inr rfl, .inr rfl, .inr rfl, .inr rfl, .inr rfl, .inr rfl, .inr rfl, .inr rfl, .inr rfl, .inl rfl, .inl rfl, .inr rfl, .inr rfl, .inr rfl, .inr rfl, .inr rfl, .inr rfl, trivial⟩
    · show SS _ _ [.v rScr ns, .v rInt (k : Int), .v rTx ans, .v rInt (wd : Int), .v rInt (p : Int), .v (rL rKd) kn, .v (rL rInt) sh, .v (rL rKd) td, sN P w l nBg rInt [], .un, .v (rL (rT rInt)) (urnM p), .un, .un, .un, .un, .un, .un, .un, .un] _
      obtain ⟨u1, u2, u3⟩ := urn_ok p h4.2
      have hpk : ∀ d ∈ urnM p, (pkM td d).length = p ∧ (∀ x ∈ pkM td d, x ∈ kn) ∧ SrK (pkM td d) := by
        intro d hd
        have hq := srtD_perm dKd (d.map fun q => td.getD q.toNat (0, []))
        refine ⟨by show (srtD dKd _).length = p; rw [hq.length_eq, List.length_map]; exact (u3 d hd).1, fun x hx => ?_, srtD_pw _ _⟩
        obtain ⟨q, hq2, rfl⟩ := List.mem_map.mp (hq.mem_iff.mp hx)
        obtain ⟨q1, q2⟩ := (u3 d hd).2 q hq2
        refine ht2 _ ?_
        rw [List.getD_eq_getElem?_getD, List.getElem?_eq_getElem (show q.toNat < td.length by omega)]
        exact List.getElem_mem _
      refine ss_forF (urF td) [] (fun D => [.v rScr ns, .v rInt (k : Int), .v rTx ans, .v rInt (wd : Int), .v rInt (p : Int), .v (rL rKd) kn, .v (rL rInt) sh, .v (rL rKd) td, sN P w l nBg rInt D, .un, .v (rL (rT rInt)) (urnM p), .un, .un, .un, .un, .un, .un, .un, .un]) (fun i D => FG kn p D (i : Int) i ∧ (0 < i → D ≠ [])) (it_L (ev 10)) (gz_name 13 scSo.nd) ⟨.inr rfl, .inr rfl, .inr rfl, .inr rfl, .inr rfl, .inr rfl, .inr rfl, .inr rfl, .inr rfl, .inr rfl, .inr rfl, .inr rfl, .inr rfl, .inr rfl, .inr rfl, .inr rfl, .inr rfl, .inr rfl, .inr rfl, trivial⟩ ⟨FG.nil, fun h => (Nat.lt_irrefl _ h).elim⟩ (fun i d D hx hD => ?_) (fun i d D hx hD => ?_) (fun hD => ?_)
      · obtain ⟨a, b, c⟩ := hpk d (List.mem_of_getElem? hx)
        have := hD.1.put a b c (Int.le_refl 1)
        refine ⟨by rw [show ((i + 1 : Nat) : Int) = (i : Int) + 1 by omega]; exact this, fun _ h => ?_⟩
        have h5 : (urF td D d).map (·.1) = [] := by rw [h]; rfl
        unfold urF at h5
        rw [dput_keys] at h5
        split at h5
        · next h6 => rw [dlook_isSome, h5] at h6; cases h6
        · simp at h5
      · have hdm := List.mem_of_getElem? hx
        have hil := (List.getElem?_eq_some_iff.mp hx).1
        have hds := hD.1.sz
        refine ss_set 9 scSo.nd (x := pkM td d) (ev_tupL B.tuple (EL.of (EO.fz (eo_sortD dKd al_kd hr B.sorted (EL.of (EO.fz (eo_lc0 (fun q : Int => td.getD q.toNat (0, [])) scSo.nd (it_T (ev 13)) (own := [("k", 14)]) (blkOk_by (by kernel_rfl)) (fun _ _ _ _ _ => gz_name 14 scSo.nd) (by decide) (fun s H C cl fp q hq => ev_ixL (EL.of (ev 7)) (ev 14) (pick_at _ (0, []) ((u3 d hdm).2 q hq).1 (by have := ((u3 d hdm).2 q hq).2; omega))) (by rw [(u3 d hdm).1]; omega)))) (.inl fun dd hd => by obtain ⟨x, _, rfl⟩ := List.mem_map.mp hd; exact ⟨_, _, rfl⟩))))) ?_
        refine ss_putN (N := nBg) (c := rInt) 8 hr (ev_add (ev_getOrN (N := nBg) (c := rInt) hr (en 8) (ev 9) ev_int ⟨rfl, rfl, rfl, rfl⟩) ev_int) (ev 9) rfl (by omega) ?_
        exact ss_nil ⟨.inr rfl, .inr rfl, .inr rfl, .inr rfl, .inr rfl, .inr rfl, .inr rfl, .inr rfl, .inr rfl, .inl rfl, .inr rfl, .inr rfl, .inr rfl, .inl rfl, .inr rfl, .inr rfl, .inr rfl, .inr rfl, .inr rfl, trivial⟩
      · have hl : 0 < (urnM p).length := List.length_pos_iff.mpr u1
        refine ss_fzN 8 rfl ?_
        refine ss_ret (ev_lst2 (ev_tup3 (ev_str [117, 114, 110]) (ev 4) (ev_tupL B.tuple (EL.of (ev 7)))).any (ev 8)) ?_
        exact ⟨hD.2 hl, _, _, hD.1, by omega, by omega⟩
  refine ss_dictN (N := nKd) (c := rInt) 15 scSo.nd fun l2 => ?_
  refine ss_forF (kwS kn sh) [] (fun D => [.v rScr ns, .v rInt (k : Int), .v rTx ans, .v rInt (wd : Int), .v rInt (p : Int), .v (rL rKd) kn, .v (rL rInt) sh, .v (rL rKd) td, sN P w l nBg rInt [], .un, .un, .un, .un, .un, .un, sN P w l2 nKd rInt D, .un, .un, .un]) (fun i D => KW kn i D) (it_range 5 B.range ev_int rfl (by decide)) (gz_name 14 scSo.nd) ⟨.inr rfl, .inr rfl, .inr rfl, .inr rfl, .inr rfl, .inr rfl, .inr rfl, .inr rfl, .inr rfl, .inr rfl, .inr rfl, .inr rfl, .inr rfl, .inr rfl, .inr rfl, .inr rfl, .inr rfl, .inr rfl, .inr rfl, trivial⟩ ⟨fun h => (Nat.lt_irrefl _ h).elim, Nat.le_refl _, fun e y h => by cases h⟩ (fun i j D hx hD => ?_) (fun i j D hx hD => ?_) (fun hD => ?_)
  · have hj := List.mem_of_getElem? hx
    exact hD.step (hkm j hj) (hk6 j hj).2.1 (hk6 j hj).2.2
  · have hj := List.mem_of_getElem? hx
    have hil := (List.getElem?_eq_some_iff.mp hx).1
    rw [rng_len] at hil
    have hds := hD.sz
    refine ss_putN (N := nKd) (c := rInt) 15 hr (ev_add ev_int (ev_ixL (EL.of (ev 6)) (ev_add ev_int (ev 14)) (hk6 j hj).1)) (ev_ixL (x := kxM kn sh j) (EL.of (ev 5)) (ev_ixL (EL.of (ev 6)) (ev_add ev_int (ev 14)) (hk1 j hj).1) (pick_at _ (0, []) (hk1 j hj).2.1 (hk1 j hj).2.2)) rfl (by omega) ?_
    exact ss_nil ⟨.inr rfl, .inr rfl, .inr rfl, .inr rfl, .inr rfl, .inr rfl, .inr rfl, .inr rfl, .inr rfl, .inr rfl, .inr rfl, .inr rfl, .inr rfl, .inr rfl, .inl rfl, .inr rfl, .inr rfl, .inr rfl, .inr rfl, trivial⟩
  · obtain ⟨kw, hkw⟩ : ∃ kw, kw = (rng 0 5).foldl (kwS kn sh) [] := ⟨_, rfl⟩
    rw [← hkw] at hD ⊢
    refine ss_fzN 15 rfl ?_
    have hne := hD.ne (by rw [rng_len]; decide)
    have hsz5 : kw.length ≤ 5 := by have := hD.sz; rw [rng_len] at this; exact this
    obtain ⟨ks, hks⟩ : ∃ ks, ks = srtD dKd (kw.map (·.1)) := ⟨_, rfl⟩
    have hpm : ks.Perm (kw.map (·.1)) := hks ▸ srtD_perm _ _
    have hkl2 : ks.length = kw.length := by rw [hpm.length_eq, List.length_map]
    have hks1 : ks ≠ [] := List.length_pos_iff.mp (by rw [hkl2]; exact List.length_pos_iff.mpr hne)
    have hkx : ∀ e ∈ ks, dlook kw e = some ((dlook kw e).getD 0) ∧ e ∈ kn ∧ 1 ≤ (dlook kw e).getD 0 ∧ (dlook kw e).getD 0 ≤ 5 := by
      intro e he
      have h1 := dlook_isSome.mpr (hpm.mem_iff.mp he)
      cases h : dlook kw e with
      | none => rw [h] at h1; cases h1
      | some y => exact ⟨rfl, hD.ok e y h⟩
    refine ss_setO 16 scSo.nd (eo_lst (c := r2 (rT rKd) rInt) (xs := [([], 1)]) (ea1 (ev_tup2 (ev_tup (c := rKd) (xs := []) ea_nil (Nat.zero_le _)) ev_int)) (by decide)) ?_
    refine ss_fz 16 rfl ?_
    refine ss_forF (fun f (_ : Int) => diS ks kw f) [([], 1)] (fun f => [.v rScr ns, .v rInt (k : Int), .v rTx ans, .v rInt (wd : Int), .v rInt (p : Int), .v (rL rKd) kn, .v (rL rInt) sh, .v (rL rKd) td, sN P w l nBg rInt [], .un, .un, .un, .un, .un, .un, .v (rND P w nKd rInt) kw, .v (rL (r2 (rT rKd) rInt)) f, .un, .un]) (fun i f => DI kn i f) (it_range p B.range (ev 4) rfl (by omega)) (gz_name 11 scSo.nd) ⟨.inr rfl, .inr rfl, .inr rfl, .inr rfl, .inr rfl, .inr rfl, .inr rfl, .inr rfl, .inr rfl, .inr rfl, .inr rfl, .inr rfl, .inr rfl, .inr rfl, .inr rfl, .inr rfl, .inr rfl, .inr rfl, .inr rfl, trivial⟩ ⟨by simp, by simp, fun t ht => by rw [List.mem_singleton.mp ht]; exact ⟨rfl, fun x hx => (List.not_mem_nil hx).elim, by decide, by decide⟩⟩ (fun i k f hx hf => hf.step hks1 (by omega) fun e he => (hkx e he).2) (fun i j f hx hf => ?_) (fun hf => ?_)
    · obtain ⟨hi, rfl⟩ := rng_get.mp hx
      have hpw : 5 ^ i ≤ 5 ^ 3 := Nat.pow_le_pow_right (by decide) (by omega)
      have hpz : ((5 : Int) ^ i) ≤ 125 := by exact_mod_cast hpw
      refine ss_setO 12 scSo.nd (eo_nil (c := r2 (rT rKd) rInt)) ?_
      refine ss_forF (fun acc (t : Thr) => acc ++ ks.map fun e => (t.1 ++ [e], t.2 * (dlook kw e).getD 0)) [] (fun acc => [.v rScr ns, .v rInt (k : Int), .v rTx ans, .v rInt (wd : Int), .v rInt (p : Int), .v (rL rKd) kn, .v (rL rInt) sh, .v (rL rKd) td, sN P w l nBg rInt [], .un, .un, .un, .ol (r2 (rT rKd) rInt) acc, .un, .un, .v (rND P w nKd rInt) kw, .v (rL (r2 (rT rKd) rInt)) f, .un, .un]) (fun j acc => acc.length ≤ j * 5) (it_L (ev 16)) (gz_name 17 scSo.nd) ⟨.inr rfl, .inr rfl, .inr rfl, .inr rfl, .inr rfl, .inr rfl, .inr rfl, .inr rfl, .inr rfl, .inr rfl, .inr rfl, .inl rfl, .inr rfl, .inr rfl, .inr rfl, .inr rfl, .inr rfl, .inr rfl, .inr rfl, trivial⟩ (Nat.zero_le _) (fun j t acc hy ha => by rw [List.length_append, List.length_map]; omega) (fun j t acc hy ha => ?_) (fun _ => ?_)
      · obtain ⟨t1, t2, t3, t4⟩ := hf.ok t (List.mem_of_getElem? hy)
        have hjl := (List.getElem?_eq_some_iff.mp hy).1
        have hfl := hf.le
        refine ss_forF (fun ac (e : Kd) => ac ++ [((t.1 ++ [e], t.2 * (dlook kw e).getD 0) : Thr)]) acc (fun ac => [.v rScr ns, .v rInt (k : Int), .v rTx ans, .v rInt (wd : Int), .v rInt (p : Int), .v (rL rKd) kn, .v (rL rInt) sh, .v (rL rKd) td, sN P w l nBg rInt [], .un, .un, .un, .ol (r2 (rT rKd) rInt) ac, .un, .un, .v (rND P w nKd rInt) kw, .v (rL (r2 (rT rKd) rInt)) f, .v (r2 (rT rKd) rInt) t, .un]) (fun m ac => ac.length ≤ j * 5 + m) (it_L (EV.cast (EO.fz (eo_sortD dKd al_kd hr B.sorted (EL.of (EO.fz (eo_listN (N := nKd) (c := rInt) rfl B.list (EN.of (ev 15))))) (.inl fun dd hd => by obtain ⟨x, _, rfl⟩ := List.mem_map.mp hd; exact ⟨_, _, rfl⟩))) hks.symm)) (gz_name 18 scSo.nd) ⟨.inr rfl, .inr rfl, .inr rfl, .inr rfl, .inr rfl, .inr rfl, .inr rfl, .inr rfl, .inr rfl, .inr rfl, .inr rfl, .inr rfl, .inr rfl, .inr rfl, .inr rfl, .inr rfl, .inr rfl, .inr rfl, .inr rfl, trivial⟩ ha (fun m e ac hz hm => by simp; omega) (fun m e ac hz hm => ?_) (fun _ => ?_)
        · have hem := List.mem_of_getElem? hz
          have hml := (List.getElem?_eq_some_iff.mp hz).1
          obtain ⟨e1, e2, e3, e4⟩ := hkx e hem
          refine ss_app 12 rfl (ev_tup2 (ev_catT (ev_fst2 (x := t.1) (y := t.2) (ev 17)) (ev_tup (xs := [_]) (ea1 (ev 18)) (by simp)) (by simp; omega)) (ev_mul (ev_snd2 (x := t.1) (y := t.2) (ev 17)) (ev_getN (N := nKd) (c := rInt) hr (EN.of (ev 15)) (ev 18) e1) (.inr ⟨by omega, by omega⟩))) (by omega) ?_
          exact ss_nil ⟨.inr rfl, .inr rfl, .inr rfl, .inr rfl, .inr rfl, .inr rfl, .inr rfl, .inr rfl, .inr rfl, .inr rfl, .inr rfl, .inr rfl, .inr rfl, .inr rfl, .inr rfl, .inr rfl, .inr rfl, .inr rfl, .inl rfl, trivial⟩
        · refine ss_nil ?_
          rw [foldl_app (fun e : Kd => ((t.1 ++ [e], t.2 * (dlook kw e).getD 0) : Thr))]
          exact ⟨.inr rfl, .inr rfl, .inr rfl, .inr rfl, .inr rfl, .inr rfl, .inr rfl, .inr rfl, .inr rfl, .inr rfl, .inr rfl, .inr rfl, .inr rfl, .inr rfl, .inr rfl, .inr rfl, .inr rfl, .inl rfl, .inr rfl, trivial⟩
      · rw [foldl_appL (fun t : Thr => ks.map fun e => ((t.1 ++ [e], t.2 * (dlook kw e).getD 0) : Thr)), List.nil_append]
        refine ss_setO 16 scSo.nd (eo_listL B.list (el 12)) ?_
        refine ss_fz 16 rfl ?_
        exact ss_nil ⟨.inr rfl, .inr rfl, .inr rfl, .inr rfl, .inr rfl, .inr rfl, .inr rfl, .inr rfl, .inr rfl, .inr rfl, .inr rfl, .inl rfl, .inl rfl, .inr rfl, .inr rfl, .inr rfl, .inr rfl, .inr rfl, .inr rfl, trivial⟩
    · rw [rng_len] at hf
      generalize (rng 0 p).foldl (fun f (_ : Int) => diS ks kw f) [([], 1)] = th at hf ⊢
      have hpw : 5 ^ p ≤ 5 ^ 3 := Nat.pow_le_pow_right (by decide) (by omega)
      have hpz : ((5 : Int) ^ p) ≤ 125 := by exact_mod_cast hpw
      have hfl := hf.le
      refine ss_forF diF [] (fun D => [.v rScr ns, .v rInt (k : Int), .v rTx ans, .v rInt (wd : Int), .v rInt (p : Int), .v (rL rKd) kn, .v (rL rInt) sh, .v (rL rKd) td, sN P w l nBg rInt D, .un, .un, .un, .un, .un, .un, .v (rND P w nKd rInt) kw, .v (rL (r2 (rT rKd) rInt)) th, .un, .un]) (fun i D => FG kn p D ((i : Int) * 125) i ∧ (0 < i → D ≠ [])) (it_L (ev 16)) (gz_name 17 scSo.nd) ⟨.inr rfl, .inr rfl, .inr rfl, .inr rfl, .inr rfl, .inr rfl, .inr rfl, .inr rfl, .inr rfl, .inr rfl, .inr rfl, .inr rfl, .inr rfl, .inr rfl, .inr rfl, .inr rfl, .inr rfl, .inr rfl, .inr rfl, trivial⟩ ⟨FG.nil, fun h => (Nat.lt_irrefl _ h).elim⟩ (fun i t D hx hD => ?_) (fun i t D hx hD => ?_) (fun hD => ?_)
      · obtain ⟨t1, t2, t3, t4⟩ := hf.ok t (List.mem_of_getElem? hx)
        have hq := srtD_perm dKd t.1
        have h6 := hD.1.put (E := srtD dKd t.1) (by rw [hq.length_eq]; exact t1) (fun x hx => t2 x (hq.mem_iff.mp hx)) (srtD_pw _ _) t3
        refine ⟨⟨h6.nd, h6.len, h6.mem, h6.srt, h6.pos, by have := h6.tot; unfold diF; omega, h6.sz⟩, fun _ h => ?_⟩
        have h5 : (diF D t).map (·.1) = [] := by rw [h]; rfl
        unfold diF at h5
        rw [dput_keys] at h5
        split at h5
        · next h6 => rw [dlook_isSome, h5] at h6; cases h6
        · simp at h5
      · have hil := (List.getElem?_eq_some_iff.mp hx).1
        have hds := hD.1.sz
        refine ss_set 9 scSo.nd (x := srtD dKd t.1) (ev_tupL B.tuple (EL.of (EO.fz (eo_sortDT dKd al_kd hr B.sorted (ev_fst2 (x := t.1) (y := t.2) (ev 17)) (.inl fun dd hd => by obtain ⟨x, _, rfl⟩ := List.mem_map.mp hd; exact ⟨_, _, rfl⟩))))) ?_
        refine ss_putN (N := nBg) (c := rInt) 8 hr (ev_add (ev_getOrN (N := nBg) (c := rInt) hr (en 8) (ev 9) ev_int ⟨rfl, rfl, rfl, rfl⟩) (ev_snd2 (x := t.1) (y := t.2) (ev 17))) (ev 9) rfl (by omega) ?_
        exact ss_nil ⟨.inr rfl, .inr rfl, .inr rfl, .inr rfl, .inr rfl, .inr rfl, .inr rfl, .inr rfl, .inr rfl, .inl rfl, .inr rfl, .inr rfl, .inr rfl, .inr rfl, .inr rfl, .inr rfl, .inr rfl, .inl rfl, .inr rfl, trivial⟩
      · have hl : 0 < th.length := List.length_pos_iff.mpr hf.ne
        refine ss_fzN 8 rfl ?_
        refine ss_ret (ev_lst2 (ev_tup3 (ev_str [100, 105, 99, 101]) (ev 4) (ev_tupL B.tuple (EL.of (EO.fz (eo_lc0 (fun e : Kd => ((dlook kw e).getD 0, e)) scSo.nd (it_L (EV.cast (EO.fz (eo_sortD dKd al_kd hr B.sorted (EL.of (EO.fz (eo_listN (N := nKd) (c := rInt) rfl B.list (EN.of (ev 15))))) (.inl fun dd hd => by obtain ⟨x, _, rfl⟩ := List.mem_map.mp hd; exact ⟨_, _, rfl⟩))) hks.symm)) (own := [("example", 18)]) (blkOk_by (by kernel_rfl)) (fun _ _ _ _ _ => gz_name 18 scSo.nd) (by decide) (fun s H C cl fp e he => ev_tup2 (ev_getN (N := nKd) (c := rInt) hr (EN.of (ev 15)) (ev 18) (hkx e he).1) (ev 18)) (by omega)))))).any (ev 8)) ?_
        exact ⟨hD.2 hl, _, _, hD.1, by omega, by omega⟩
end
end Q

set_option Elab.async false
set_option linter.all false
set_option maxRecDepth 100000
set_option maxHeartbeats 4000000
namespace Q
open PySem PySem.Spec PyProof.Rows L2 Z
/-! ### adding up in a dict -/
theorem fold_add {β κ α : Type} [DecidableEq κ] [Add α] [OfNat α 0] (hz : ∀ x : α, x + 0 = x) (hz2 : ∀ x : α, 0 + x = x) (ha : ∀ x y z : α, x + y + z = x + (y + z)) (key : β → κ) (amt : β → α) : ∀ (xs : List β) (d : List (κ × α)) (v : κ),
    (dlook (xs.foldl (fun d x => dput d (key x) ((dlook d (key x)).getD 0 + amt x)) d) v).getD 0 = (dlook d v).getD 0 + (xs.map fun x => if key x = v then amt x else 0).foldr (· + ·) 0
  | [], d, v => by simp [hz]
  | x :: xs, d, v => by
    rw [List.foldl_cons, fold_add hz hz2 ha key amt xs, dlook_put, List.map_cons, List.foldr_cons]
    by_cases e : key x = v
    · rw [if_pos e.symm, if_pos e, Option.getD_some, e, ha]
    · rw [if_neg (fun z => e z.symm), if_neg e, hz2]
theorem foldr_sum (l : List Int) : l.foldr (· + ·) 0 = l.sum := by
  induction l with
  | nil => rfl
  | cons x l ih => rw [List.foldr_cons, ih, List.sum_cons]
/-! ### views by place -/
def vj (E : Bag) (j : Nat) : Bag × Int := ((viewM E j).1, (viewM E j).2.1)
/-- at how many places is this view seen -/
def aOf (E : Bag) (v : Bag × Int) : Int := ((rng 0 E.length).map fun j => if vj E j.toNat = v then (1 : Int) else 0).sum
theorem sum_scale {β : Type} (c : Int) (f : β → Int) : ∀ xs : List β, (xs.map fun x => c * f x).sum = c * (xs.map f).sum
  | [] => by simp
  | x :: xs => by rw [List.map_cons, List.sum_cons, sum_scale c f xs, List.map_cons, List.sum_cons, Int.mul_add]
theorem sum_congr {β : Type} {f g : β → Int} {xs : List β} (h : ∀ x ∈ xs, f x = g x) : (xs.map f).sum = (xs.map g).sum := by rw [List.map_congr_left h]
theorem sum_perm {l m : List Int} (h : l.Perm m) : l.sum = m.sum := by
  induction h with
  | nil => rfl
  | cons x _ ih => rw [List.sum_cons, List.sum_cons, ih]
  | swap x y l => simp only [List.sum_cons]; omega
  | trans _ _ h1 h2 => exact h1.trans h2
theorem vw_get (bags : List (Int × Bag)) (v : Bag × Int) : (dlook (vwM bags) v).getD 0 = (bags.map fun b => b.1 * aOf b.2 v).sum := by
  have : ∀ (bags : List (Int × Bag)) (d : List ((Bag × Int) × Int)), (dlook (bags.foldl (fun d b => (rng 0 b.2.length).foldl (vwS b) d) d) v).getD 0 = (dlook d v).getD 0 + (bags.map fun b => b.1 * aOf b.2 v).sum := by
    intro bags
    induction bags with
    | nil => intro d; simp
    | cons b bags ih =>
      intro d
      rw [List.foldl_cons, ih, List.map_cons, List.sum_cons]
      have := fold_add (α := Int) Int.add_zero Int.zero_add Int.add_assoc (fun i : Int => vj b.2 i.toNat) (fun _ => b.1) (rng 0 b.2.length) d v
      rw [foldr_sum] at this
      have e : (fun x : Int => if vj b.2 x.toNat = v then b.1 else 0) = fun x : Int => b.1 * (if vj b.2 x.toNat = v then 1 else 0) := by
        funext x
        split <;> simp
      rw [e, sum_scale] at this
      have e2 : (fun (d : List ((Bag × Int) × Int)) (x : Int) => dput d (vj b.2 x.toNat) ((dlook d (vj b.2 x.toNat)).getD 0 + b.1)) = vwS b := rfl
      rw [e2] at this
      rw [this]
      unfold aOf
      omega
  have h := this bags []
  simpa [vwM, dlook_nil] using h
/-! ### orders -/
theorem srtK_uniq {l m : Bag} (h : m.Perm l) (s : SrK m) : srtD dKd l = m :=
  (List.Perm.eq_of_pairwise (le := fun x y => leD dKd x y = true) (fun _ _ _ _ h1 h2 => leK_anti h1 h2) s (srtD_pw dKd l) (h.trans (srtD_perm dKd l).symm)).symm
theorem ords1 : ordsM 1 = [[0]] := by decide
theorem ords2 : ordsM 2 = [[1, 0], [0, 1]] := by decide
theorem ords3 : ordsM 3 = [[2, 1, 0], [1, 2, 0], [1, 0, 2], [2, 0, 1], [0, 2, 1], [0, 1, 2]] := by decide
/-- how often a view is seen by all orders -/
def oOf (E : Bag) (v : Bag × Int) : Int := ((ordsM E.length).map fun o => if viewO E o = v then (1 : Int) else 0).sum
def facP (p : Nat) : Int := ((ordsM p).length : Int)
theorem o_of {E : Bag} (h1 : 1 ≤ E.length) (h3 : E.length ≤ 3) (s : SrK E) (v : Bag × Int) : oOf E v * (E.length : Int) = facP E.length * aOf E v := by
  match E, h1, h3, s with
  | [a], _, _, s =>
    unfold oOf aOf facP
    rw [show ([a] : Bag).length = 1 from rfl, ords1]
    have e : viewO [a] [0] = vj [a] 0 := by
      show (srtD dKd [], a.1) = ([], a.1)
      rw [srtK_uniq (m := []) (List.Perm.refl _) List.Pairwise.nil]
    simp [rng, e]
  | [a, b], _, _, s =>
    unfold oOf aOf facP
    rw [show ([a, b] : Bag).length = 2 from rfl, ords2]
    have e1 : viewO [a, b] [1, 0] = vj [a, b] 0 := by
      show (srtD dKd [b], a.1) = ([b], a.1)
      rw [srtK_uniq (m := [b]) (List.Perm.refl _) (List.pairwise_singleton _ _)]
    have e2 : viewO [a, b] [0, 1] = vj [a, b] 1 := by
      show (srtD dKd [a], b.1) = ([a], b.1)
      rw [srtK_uniq (m := [a]) (List.Perm.refl _) (List.pairwise_singleton _ _)]
    simp [rng, e1, e2, List.range_succ]
    omega
  | [a, b, c], _, _, s =>
    unfold oOf aOf facP
    rw [show ([a, b, c] : Bag).length = 3 from rfl, ords3]
    obtain ⟨s1, s2⟩ := List.pairwise_cons.mp s
    obtain ⟨s3, _⟩ := List.pairwise_cons.mp s2
    have sab := s1 b (by simp)
    have sac := s1 c (by simp)
    have sbc := s3 c (by simp)
    have two : ∀ {x y : Kd}, leD dKd x y = true → SrK [x, y] := fun h => List.pairwise_cons.mpr ⟨fun z hz => by rw [List.mem_singleton.mp hz]; exact h, List.pairwise_singleton _ _⟩
    have e1 : viewO [a, b, c] [2, 1, 0] = vj [a, b, c] 0 := by
      show (srtD dKd [c, b], a.1) = ([b, c], a.1)
      rw [srtK_uniq (m := [b, c]) (List.Perm.swap _ _ _) (two sbc)]
    have e2 : viewO [a, b, c] [1, 2, 0] = vj [a, b, c] 0 := by
      show (srtD dKd [b, c], a.1) = ([b, c], a.1)
      rw [srtK_uniq (m := [b, c]) (List.Perm.refl _) (two sbc)]
    have e3 : viewO [a, b, c] [1, 0, 2] = vj [a, b, c] 2 := by
      show (srtD dKd [b, a], c.1) = ([a, b], c.1)
      rw [srtK_uniq (m := [a, b]) (List.Perm.swap _ _ _) (two sab)]
    have e4 : viewO [a, b, c] [2, 0, 1] = vj [a, b, c] 1 := by
      show (srtD dKd [c, a], b.1) = ([a, c], b.1)
      rw [srtK_uniq (m := [a, c]) (List.Perm.swap _ _ _) (two sac)]
    have e5 : viewO [a, b, c] [0, 2, 1] = vj [a, b, c] 1 := by
      show (srtD dKd [a, c], b.1) = ([a, c], b.1)
      rw [srtK_uniq (m := [a, c]) (List.Perm.refl _) (two sac)]
    have e6 : viewO [a, b, c] [0, 1, 2] = vj [a, b, c] 2 := by
      show (srtD dKd [a, b], c.1) = ([a, b], c.1)
      rw [srtK_uniq (m := [a, b]) (List.Perm.refl _) (two sab)]
    simp [rng, e1, e2, e3, e4, e5, e6, List.range_succ]
    omega
/-! ### what is seen -/
/-- by views' places: so many wholes times places -/
def AofM (fo : Fnd) (v : Bag × Int) : Int := (fo.map fun q => q.2 * aOf q.1 v).sum
def seenM (fo : Fnd) (p : Nat) : TabR := boM (fV fo) (whM fo * ((ordsM p).length : Int)) (fo.map (·.1))
theorem frac_zero (d : Int) : frac 0 d = 0 := Rat.zero_divInt d
theorem frac_cancel {a b k : Int} (hk : k ≠ 0) (hb : b ≠ 0) : frac (a * k) (b * k) = frac a b := (frac_iff (Int.mul_ne_zero hb hk) hb).mpr (by rw [Int.mul_assoc, Int.mul_comm k b])
theorem fV_at {fo : Fnd} (nd : (fo.map (·.1)).Nodup) {q : Bag × Int} (h : q ∈ fo) : fV fo q.1 = q.2 := by
  unfold fV
  rw [dlook_of_mem nd h]
  rfl
theorem seen_get {p : Nat} {fo : Fnd} (h : FO p fo) (hp : p ≤ 3) (so : ∀ E ∈ fo.map (·.1), SrK E) (v : Bag × Int) : (dlook (seenM fo p) v).getD 0 = frac (AofM fo v) (whM fo * (p : Int)) := by
  have hl : 0 < ((ordsM p).length : Int) := by have := (ordsM_len p h.p4).1; omega
  have h0 := h.pos
  have hp1 := h.p1
  have hD : whM fo * ((ordsM p).length : Int) ≠ 0 := Int.ne_of_gt (Int.mul_pos h0 hl)
  generalize hDD : whM fo * ((ordsM p).length : Int) = D0 at *
  have one : ∀ (E : Bag) (D : TabR), (dlook (boE (fV fo) D0 D E) v).getD 0 = (dlook D v).getD 0 + frac (fV fo E * oOf E v) D0 := by
    intro E D
    have h1 := fold_add (α := Rat) Rat.add_zero Rat.zero_add Rat.add_assoc (fun o : List Int => viewO E o) (fun _ => frac (fV fo E) D0) (ordsM E.length) D v
    have e2 : (fun (d : TabR) (x : List Int) => dput d (viewO E x) ((dlook d (viewO E x)).getD 0 + frac (fV fo E) D0)) = boS (frac (fV fo E) D0) E := rfl
    rw [e2] at h1
    unfold boE
    rw [h1]
    congr 1
    unfold oOf
    generalize ordsM E.length = os
    clear h1 e2
    induction os with
    | nil => simp
    | cons o os ih =>
      rw [List.map_cons, List.foldr_cons, ih, List.map_cons, List.sum_cons]
      by_cases e : viewO E o = v
      · rw [if_pos e, if_pos e, frac_same hD, Int.mul_add, Int.mul_one]
      · rw [if_neg e, if_neg e, Rat.zero_add, Int.zero_add]
  have all : ∀ (Es : List Bag) (D : TabR), (dlook (Es.foldl (boE (fV fo) D0) D) v).getD 0 = (dlook D v).getD 0 + frac ((Es.map fun E => fV fo E * oOf E v).sum) D0 := by
    intro Es
    induction Es with
    | nil => intro D; simp [Rat.add_zero]
    | cons E Es ih =>
      intro D
      rw [List.foldl_cons, ih, one, List.map_cons, List.sum_cons, Rat.add_assoc, frac_same hD]
  have h2 := all (fo.map (·.1)) []
  unfold seenM boM
  rw [hDD, h2, dlook_nil, Option.getD_none, Rat.zero_add]
  rw [List.map_map]
  refine (frac_iff hD (Int.mul_ne_zero (by omega) (by omega))).mpr ?_
  have e : ((fo.map ((fun E => fV fo E * oOf E v) ∘ fun x => x.1)).sum) * (p : Int) = ((ordsM p).length : Int) * AofM fo v := by
    unfold AofM
    rw [← sum_scale, Int.mul_comm, ← sum_scale]
    refine sum_congr fun q hq => ?_
    have hq1 : q.1 ∈ fo.map (·.1) := List.mem_map_of_mem hq
    have hlen := h.len q.1 hq1
    have := o_of (E := q.1) (by omega) (by omega) (so q.1 hq1) v
    rw [hlen] at this
    show (p : Int) * (fV fo q.1 * oOf q.1 v) = _
    rw [fV_at h.nd hq, Int.mul_left_comm, Int.mul_comm (p : Int), this]
    unfold facP
    rw [Int.mul_left_comm]
  rw [← hDD, Int.mul_left_comm, e, Int.mul_left_comm, ← Int.mul_assoc, ← Int.mul_assoc]
  grind
/-! ### the source's own -/
def bagsM (fo : Fnd) : List (Int × Bag) := fo.map fun q => (q.2, q.1)
theorem gW_bags {fo : Fnd} (nd : (fo.map (·.1)).Nodup) : gW (bagsM fo) = fo := by
  have : ∀ (l : Fnd) (d : Fnd), ((d ++ l).map (·.1)).Nodup → (bagsM l).foldl (fun d b => dput d b.2 ((dlook d b.2).getD 0 + b.1)) d = d ++ l := by
    intro l
    induction l with
    | nil => intro d _; simp [bagsM]
    | cons q l ih =>
      intro d hd
      have hn : dlook d q.1 = none := by
        cases h : dlook d q.1 with
        | none => rfl
        | some y =>
          have h2 : q.1 ∈ d.map (·.1) := dlook_isSome.mp (by rw [h]; rfl)
          rw [List.map_append, List.nodup_append] at hd
          exact (hd.2.2 q.1 h2 q.1 (by simp) rfl).elim
      show (bagsM l).foldl _ (dput d q.1 ((dlook d q.1).getD 0 + q.2)) = _
      rw [dput_fresh hn, hn, Option.getD_none, Int.zero_add, ih _ (by simpa using hd)]
      simp
  have h := this fo [] (by simpa using nd)
  simpa [gW] using h
theorem gfold_dvd : ∀ (l : List Int) (s : Int), (l.foldl (fun s x => gcdI s x) s) ∣ s ∧ ∀ x ∈ l, (l.foldl (fun s x => gcdI s x) s) ∣ x
  | [], s => ⟨Int.dvd_refl s, fun x h => (List.not_mem_nil h).elim⟩
  | y :: l, s => by
    obtain ⟨h1, h2⟩ := gfold_dvd l (gcdI s y)
    rw [List.foldl_cons]
    refine ⟨Int.dvd_trans h1 (Int.gcd_dvd_left s y), fun x hx => ?_⟩
    rcases List.mem_cons.mp hx with rfl | hx
    · exact Int.dvd_trans h1 (Int.gcd_dvd_right s x)
    · exact h2 x hx
theorem gath_sum {fo : Fnd} (nd : (fo.map (·.1)).Nodup) (f : Bag → Int) : (((gathM (bagsM fo)).map fun b => b.1 * f b.2).sum) * gSh (bagsM fo) = (fo.map fun q => q.2 * f q.1).sum := by
  unfold gathM
  have hg : gW (bagsM fo) = fo := gW_bags nd
  rw [hg, List.map_map, Int.mul_comm, ← sum_scale]
  have hp := srtD_perm (dT dKd) (fo.map (·.1))
  rw [sum_perm (hp.map _), List.map_map]
  refine sum_congr fun q hq => ?_
  show gSh (bagsM fo) * (((dlook fo q.1).getD 0 / gSh (bagsM fo)) * f q.1) = _
  rw [dlook_of_mem nd hq, Option.getD_some, ← Int.mul_assoc]
  congr 1
  refine Int.mul_ediv_cancel' ?_
  unfold gSh
  rw [hg]
  exact (gfold_dvd _ 0).2 q.2 (List.mem_map_of_mem hq)
theorem tot_gath {fo : Fnd} (nd : (fo.map (·.1)).Nodup) : totM (gathM (bagsM fo)) * gSh (bagsM fo) = whM fo := by
  have h := gath_sum nd (fun _ => 1)
  simp only [Int.mul_one] at h
  unfold totM
  rw [h, whM_eq nd]
/-- what it is worth, by all orders -/
theorem worth_eq {p : Nat} {fo : Fnd} (h : FO p fo) (hp : p ≤ 3) (so : ∀ E ∈ fo.map (·.1), SrK E) (E : Bag) (i : Nat) (hc : 0 < cntM E (E.getD i (0, []))) : worthM (gathM (bagsM fo)) p E i = ofR ((dlook (seenM fo p) (vj E i)).getD 0 * frac 1 (cntM E (E.getD i (0, [])))) := by
  rw [seen_get h hp so, frac_mul]
  unfold worthM
  congr 1
  have h1 := vw_get (gathM (bagsM fo)) (vj E i)
  have h2 := gath_sum h.nd (fun F => aOf F (vj E i))
  have h3 := tot_gath h.nd
  have h0 := h.pos
  have hp1 := h.p1
  have hg : gSh (bagsM fo) ≠ 0 := fun e => by rw [e, Int.mul_zero] at h3; omega
  have ht : totM (gathM (bagsM fo)) ≠ 0 := fun e => by rw [e, Int.zero_mul] at h3; omega
  show frac ((dlook (vwM (gathM (bagsM fo))) (vj E i)).getD 0) _ = _
  rw [h1]
  generalize ((gathM (bagsM fo)).map fun b => b.1 * aOf b.2 (vj E i)).sum = V at *
  generalize cntM E (E.getD i (0, [])) = c at *
  unfold AofM
  rw [← h2, ← h3]
  generalize totM (gathM (bagsM fo)) = t at *
  generalize gSh (bagsM fo) = g at *
  have hp0 : (p : Int) ≠ 0 := by omega
  refine (frac_iff (Int.mul_ne_zero (Int.mul_ne_zero ht hp0) (by omega)) (Int.mul_ne_zero (Int.mul_ne_zero (Int.mul_ne_zero ht hg) hp0) (by omega))).mpr ?_
  grind
end Q

set_option Elab.async false
set_option linter.all false
set_option maxRecDepth 100000
set_option maxHeartbeats 4000000
namespace Q
open PySem PySem.Spec PyProof.Rows L2 Z
/-! ### the kinds rise, the bags of examples -/
def ltK (x y : Kd) : Prop := leD dKd x y = true ∧ x ≠ y
theorem rng_pw (n : Nat) : (rng 0 n).Pairwise (· < ·) := by
  unfold rng
  rw [List.pairwise_map]
  exact List.pairwise_lt_range.imp fun h => by omega
theorem kindsM_pw {ans : List Nat} (h : ans.Pairwise (· < ·)) (n : Nat) : (kindsM ans n).Pairwise ltK := by
  unfold kindsM
  rw [List.pairwise_flatMap]
  refine ⟨fun q _ => ?_, (rng_pw n).imp fun {a b} hab x hx y hy => ?_⟩
  · rw [List.pairwise_map, List.pairwise_map]
    refine h.imp fun {a b} hab => ⟨?_, fun e => ?_⟩
    · rw [leK]
      refine decide_eq_true (.inr ⟨rfl, ?_⟩)
      show [a] ≤ [b]
      refine List.not_lt.mp fun z => ?_
      simp [List.cons_lt_cons_iff] at z
      omega
    · have := (Prod.mk.inj e).2
      simp at this
      omega
  · obtain ⟨x2, _, rfl⟩ := List.mem_map.mp hx
    obtain ⟨y2, _, rfl⟩ := List.mem_map.mp hy
    refine ⟨?_, fun e => ?_⟩
    · rw [leK]
      exact decide_eq_true (.inl hab)
    · have := (Prod.mk.inj e).1
      omega
theorem allB_nodup (w : Nat) : ∀ n, (allB w n).Nodup
  | 0 => by show ([[]] : List (List Int)).Nodup; simp
  | n + 1 => by
    rw [allB_succ]
    unfold bagS
    show List.Pairwise _ _
    rw [List.pairwise_flatMap]
    refine ⟨fun b _ => ?_, (allB_nodup w n).imp fun {a b} hab x hx y hy e => ?_⟩
    · rw [List.pairwise_map]
      refine ((rng_pw w).filter _).imp fun {a b} hab e => ?_
      have := List.append_cancel_left e
      simp at this
      omega
    · obtain ⟨x2, _, rfl⟩ := List.mem_map.mp hx
      obtain ⟨y2, _, rfl⟩ := List.mem_map.mp hy
      exact hab (List.append_inj_left' e rfl)
theorem pickB_inj {kn : List Kd} (nd : kn.Nodup) : ∀ {b c : List Int}, (∀ q ∈ b, 0 ≤ q ∧ q < (kn.length : Int)) → (∀ q ∈ c, 0 ≤ q ∧ q < (kn.length : Int)) → pickB kn b = pickB kn c → b = c
  | [], [], _, _, _ => rfl
  | [], y :: c, _, _, e => by simp [pickB] at e
  | x :: b, [], _, _, e => by simp [pickB] at e
  | x :: b, y :: c, hb, hc, e => by
    obtain ⟨e1, e2⟩ := List.cons.inj (show kn.getD x.toNat (0, []) :: pickB kn b = kn.getD y.toNat (0, []) :: pickB kn c from e)
    have h1 := hb x (by simp)
    have h2 := hc y (by simp)
    rw [List.getD_eq_getElem?_getD, List.getElem?_eq_getElem (show x.toNat < kn.length by omega), List.getD_eq_getElem?_getD, List.getElem?_eq_getElem (show y.toNat < kn.length by omega), Option.getD_some, Option.getD_some] at e1
    have h3 : x.toNat = y.toNat := (List.getElem_inj nd).mp e1
    have h4 : x = y := by omega
    rw [h4, pickB_inj nd (fun q hq => hb q (List.mem_cons_of_mem _ hq)) (fun q hq => hc q (List.mem_cons_of_mem _ hq)) e2]
theorem ltK_nodup {kn : List Kd} (h : kn.Pairwise ltK) : kn.Nodup := h.imp fun h => h.2
theorem exB_nodup {ans : List Nat} (h : ans.Pairwise (· < ·)) (wd n : Nat) : (exBags ans wd n).Nodup := by
  unfold exBags
  show List.Pairwise _ _
  rw [List.pairwise_map]
  exact (allB_nodup _ n).imp_of_mem fun {b c} hb hc hne e => hne (pickB_inj (ltK_nodup (kindsM_pw h wd)) (allB_mem.mp hb).2.1 (allB_mem.mp hc).2.1 e)
theorem idx_le {kn : List Kd} (h : kn.Pairwise ltK) {x y : Kd} (hx : x ∈ kn) (hy : y ∈ kn) (hl : leD dKd x y = true) : kn.idxOf x ≤ kn.idxOf y := by
  by_cases c : kn.idxOf y < kn.idxOf x
  · have hxl := List.idxOf_lt_length_iff.mpr hx
    have hyl := List.idxOf_lt_length_iff.mpr hy
    have := List.pairwise_iff_getElem.mp h _ _ hyl hxl c
    rw [List.getElem_idxOf, List.getElem_idxOf] at this
    exact (this.2 (leK_anti this.1 hl)).elim
  · omega
theorem exB_mem {ans : List Nat} (h : ans.Pairwise (· < ·)) {wd n : Nat} {E : Bag} : E ∈ exBags ans wd n ↔ E.length = n ∧ (∀ x ∈ E, x ∈ kindsM ans wd) ∧ SrK E := by
  have hk := kindsM_pw h wd
  constructor
  · intro hE
    obtain ⟨b, hb, rfl⟩ := List.mem_map.mp hE
    obtain ⟨h1, h2, h3⟩ := allB_mem.mp hb
    have hg : ∀ q ∈ b, ∃ hq : q.toNat < (kindsM ans wd).length, (kindsM ans wd).getD q.toNat (0, []) = (kindsM ans wd)[q.toNat] := fun q hq => by
      have := h2 q hq
      exact ⟨by omega, by rw [List.getD_eq_getElem?_getD, List.getElem?_eq_getElem (by omega)]; rfl⟩
    refine ⟨by simp [pickB, h1], fun x hx => ?_, ?_⟩
    · obtain ⟨q, hq, rfl⟩ := List.mem_map.mp hx
      obtain ⟨hl, e⟩ := hg q hq
      rw [e]
      exact List.getElem_mem _
    · show List.Pairwise _ (pickB _ _)
      unfold pickB
      rw [List.pairwise_map]
      refine h3.imp_of_mem fun {a c} ha hc hac => ?_
      obtain ⟨hl, e⟩ := hg a ha
      obtain ⟨hl2, e2⟩ := hg c hc
      rw [e, e2]
      by_cases c1 : a.toNat = c.toNat
      · simp only [c1]
        exact (leD_total dKd).refl _
      · have := h2 a ha
        have := h2 c hc
        exact (List.pairwise_iff_getElem.mp hk _ _ hl hl2 (by omega)).1
  · rintro ⟨h1, h2, h3⟩
    refine List.mem_map.mpr ⟨E.map fun x => ((kindsM ans wd).idxOf x : Int), allB_mem.mpr ⟨by simp [h1], fun q hq => ?_, ?_⟩, ?_⟩
    · obtain ⟨x, hx, rfl⟩ := List.mem_map.mp hq
      have := List.idxOf_lt_length_iff.mpr (h2 x hx)
      omega
    · rw [List.pairwise_map]
      exact h3.imp_of_mem fun {a c} ha hc hac => by
        have := idx_le hk (h2 a ha) (h2 c hc) hac
        omega
    · unfold pickB
      rw [List.map_map]
      refine (List.map_congr_left fun x hx => ?_).trans (List.map_id E)
      have hl := List.idxOf_lt_length_iff.mpr (h2 x hx)
      show (kindsM ans wd).getD ((kindsM ans wd).idxOf x : Int).toNat (0, []) = x
      rw [Int.toNat_natCast, List.getD_eq_getElem?_getD, List.getElem?_eq_getElem hl, Option.getD_some, List.getElem_idxOf]
/-- how many of the bags are found -/
theorem found_count {ans : List Nat} (h : ans.Pairwise (· < ·)) {wd p : Nat} {keys : List Bag} (nd : keys.Nodup) (hk : ∀ E ∈ keys, E.length = p ∧ (∀ x ∈ E, x ∈ kindsM ans wd) ∧ SrK E) : ((exBags ans wd p).filter fun E => decide (E ∈ keys)).length = keys.length := by
  refine List.Perm.length_eq ((List.perm_ext_iff_of_nodup ((exB_nodup h wd p).filter _) nd).mpr fun E => ?_)
  rw [List.mem_filter, decide_eq_true_iff]
  exact ⟨fun z => z.2, fun z => ⟨(exB_mem h).mpr (hk E z), z⟩⟩
def shownS (keys : List Bag) (p : Int) (s : Int) (E : Bag) : Int := if E ∈ keys then s + p else s
theorem shown_all {ans : List Nat} (h : ans.Pairwise (· < ·)) {wd p : Nat} {keys : List Bag} (nd : keys.Nodup) (hk : ∀ E ∈ keys, E.length = p ∧ (∀ x ∈ E, x ∈ kindsM ans wd) ∧ SrK E) : (exBags ans wd p).foldl (shownS keys p) 0 = (p : Int) * (keys.length : Int) := by
  rw [← found_count h nd hk]
  generalize exBags ans wd p = Es
  have : ∀ (Es : List Bag) (s : Int), Es.foldl (shownS keys p) s = s + (p : Int) * ((Es.filter fun E => decide (E ∈ keys)).length : Int) := by
    intro Es
    induction Es with
    | nil => intro s; simp
    | cons E Es ih =>
      intro s
      rw [List.foldl_cons, ih, List.filter_cons]
      unfold shownS
      by_cases c : E ∈ keys
      · rw [if_pos c, if_pos (decide_eq_true c), List.length_cons]
        rw [show ((((Es.filter fun E => decide (E ∈ keys)).length + 1 : Nat)) : Int) = ((Es.filter fun E => decide (E ∈ keys)).length : Int) + 1 from by omega, Int.mul_add]
        omega
      · rw [if_neg c, if_neg (by simp [c])]
  rw [this, Int.zero_add]
/-! ### a found bag -/
theorem del_perm {E : Bag} {j : Nat} (h : j < E.length) : (E.getD j (0, []) :: (E.take j ++ E.drop (j + 1))).Perm E := by
  have e : E = E.take j ++ E.getD j (0, []) :: E.drop (j + 1) := by
    rw [List.getD_eq_getElem?_getD, List.getElem?_eq_getElem h, Option.getD_some, ← List.drop_eq_getElem_cons h, List.take_append_drop]
  exact (List.perm_middle.symm).trans (List.Perm.of_eq e.symm)
theorem del_srt {E : Bag} (s : SrK E) (j : Nat) : SrK (E.take j ++ E.drop (j + 1)) := by
  rw [← List.eraseIdx_eq_take_drop_succ]
  exact s.sublist (List.eraseIdx_sublist E j)
theorem same_view {E : Bag} (s : SrK E) {j k : Nat} (hj : j < E.length) (hk : k < E.length) (e : E.getD j (0, []) = E.getD k (0, [])) : vj E j = vj E k := by
  unfold vj viewM
  have h1 := (del_perm hj).trans (del_perm hk).symm
  rw [e] at h1
  have h2 := List.Perm.cons_inv h1
  have h3 := List.Perm.eq_of_pairwise (le := fun x y => leD dKd x y = true) (fun _ _ _ _ h1 h2 => leK_anti h1 h2) (del_srt s j) (del_srt s k) h2
  show (E.take j ++ E.drop (j + 1), (E.getD j (0, [])).1) = (E.take k ++ E.drop (k + 1), (E.getD k (0, [])).1)
  rw [h3, e]
theorem cnt_idx (x : Kd) : ∀ E : Bag, cntM E x = ((rng 0 E.length).map fun j => if E.getD j.toNat (0, []) = x then (1 : Int) else 0).sum := by
  intro E
  have h : E.map (fun y => if y = x then (1 : Int) else 0) = (rng 0 E.length).map fun j => if E.getD j.toNat (0, []) = x then (1 : Int) else 0 := by
    refine List.ext_getElem (by simp [rng]) fun i h1 h2 => ?_
    rw [List.length_map] at h1
    simp only [rng, List.getElem_map, List.getElem_range, Int.zero_add, Int.toNat_natCast, List.getD_eq_getElem?_getD, List.getElem?_eq_getElem h1, Option.getD_some]
  rw [← h]
  unfold cntM
  clear h
  induction E with
  | nil => rfl
  | cons y E ih =>
    rw [List.countP_cons, List.map_cons, List.sum_cons, ← ih]
    by_cases c : y = x
    · simp [c]; omega
    · simp [c]
theorem sum_le {β : Type} {f g : β → Int} : ∀ {xs : List β}, (∀ x ∈ xs, f x ≤ g x) → (xs.map f).sum ≤ (xs.map g).sum
  | [], _ => Int.le_refl _
  | x :: xs, h => by
    have h1 := h x (by simp)
    have h2 := sum_le (xs := xs) fun y hy => h y (List.mem_cons_of_mem _ hy)
    simp only [List.map_cons, List.sum_cons]
    omega
theorem cnt_le {E : Bag} (s : SrK E) {k : Nat} (hk : k < E.length) : cntM E (E.getD k (0, [])) ≤ aOf E (vj E k) := by
  rw [cnt_idx]
  unfold aOf
  refine sum_le fun j hj => ?_
  obtain ⟨h1, h2⟩ := rng_mem.mp hj
  split
  · next e => rw [if_pos (same_view s (by omega) hk e)]; exact Int.le_refl _
  · split <;> decide
theorem aOf_bd (E : Bag) (v : Bag × Int) : 0 ≤ aOf E v ∧ aOf E v ≤ (E.length : Int) := by
  unfold aOf
  have h1 := sum_le (xs := rng 0 E.length) (f := fun _ => 0) (g := fun j => if vj E j.toNat = v then (1 : Int) else 0) fun j _ => by split <;> decide
  have h2 := sum_le (xs := rng 0 E.length) (g := fun _ => 1) (f := fun j => if vj E j.toNat = v then (1 : Int) else 0) fun j _ => by split <;> decide
  have h3 : ((rng 0 E.length).map fun _ => (0 : Int)).sum = 0 := by
    generalize rng 0 E.length = l
    induction l with
    | nil => rfl
    | cons x l ih => simp [ih]
  have h4 : ((rng 0 E.length).map fun _ => (1 : Int)).sum = (E.length : Int) := by
    have := rng_len 0 E.length
    generalize rng 0 E.length = l at *
    rw [← this]
    clear this h1 h2 h3
    induction l with
    | nil => rfl
    | cons x l ih => simp [ih]; omega
  omega
theorem A_bd {p : Nat} {fo : Fnd} (h : FO p fo) (hq : ∀ q ∈ fo, 1 ≤ q.2) (v : Bag × Int) : 0 ≤ AofM fo v ∧ AofM fo v ≤ whM fo * (p : Int) := by
  unfold AofM
  rw [whM_eq h.nd]
  have h1 := sum_le (xs := fo) (f := fun _ => 0) (g := fun q => q.2 * aOf q.1 v) fun q hq1 => Int.mul_nonneg (by have := hq q hq1; omega) (aOf_bd q.1 v).1
  have h2 := sum_le (xs := fo) (f := fun q => q.2 * aOf q.1 v) (g := fun q => (p : Int) * q.2) fun q hq1 => by
    have h5 := (aOf_bd q.1 v).2
    rw [h.len q.1 (List.mem_map_of_mem hq1)] at h5
    rw [Int.mul_comm]
    exact Int.mul_le_mul_of_nonneg_right h5 (by have := hq q hq1; omega)
  have h3 : (fo.map fun _ => (0 : Int)).sum = 0 := by
    clear h1 h2 h hq
    induction fo with
    | nil => rfl
    | cons x l ih => simp [ih]
  rw [sum_scale (p : Int) (fun q : Bag × Int => q.2), Int.mul_comm] at h2
  exact ⟨by omega, h2⟩
theorem A_ge {p : Nat} {fo : Fnd} (h : FO p fo) (hq : ∀ q ∈ fo, 1 ≤ q.2) (v : Bag × Int) {E : Bag} (hE : E ∈ fo.map (·.1)) : fV fo E * aOf E v ≤ AofM fo v := by
  obtain ⟨q, hq1, rfl⟩ := List.mem_map.mp hE
  rw [fV_at h.nd hq1]
  unfold AofM
  have : ∀ (l : Fnd), (∀ q ∈ l, 1 ≤ q.2) → q ∈ l → 0 ≤ (l.map fun q => q.2 * aOf q.1 v).sum ∧ q.2 * aOf q.1 v ≤ (l.map fun q => q.2 * aOf q.1 v).sum := by
    intro l
    induction l with
    | nil => intro _ h; cases h
    | cons r l ih =>
      intro h1 h2
      have hr : 0 ≤ r.2 * aOf r.1 v := Int.mul_nonneg (by have := h1 r (by simp); omega) (aOf_bd r.1 v).1
      have hl0 : 0 ≤ (l.map fun q => q.2 * aOf q.1 v).sum := by
        have h6 := sum_le (xs := l) (f := fun _ => 0) (g := fun q => q.2 * aOf q.1 v) fun q hq1 => Int.mul_nonneg (by have := h1 q (List.mem_cons_of_mem _ hq1); omega) (aOf_bd q.1 v).1
        have h3 : (l.map fun _ => (0 : Int)).sum = 0 := by
          clear h6 h1 h2 ih
          induction l with
          | nil => rfl
          | cons x l ih => simp [ih]
        omega
      rw [List.map_cons, List.sum_cons]
      rcases List.mem_cons.mp h2 with rfl | h2
      · omega
      · have := (ih (fun q hq => h1 q (List.mem_cons_of_mem _ hq)) h2).2
        omega
  exact (this fo hq hq1).2
end Q

set_option Elab.async false
set_option linter.all false
set_option maxRecDepth 100000
set_option maxHeartbeats 4000000
namespace Q
open PySem PySem.Spec PyProof.Rows L2 Z
section
variable {X : Cx} {Γ : List Sl} {α β : Type} {c : Rp α} {d : Rp β} {a : Expr} {pos : Pos} {post : α × β → Prop}
theorem ex_sndL2 {j pb} (ha : EX X a Γ (rL2 c d) post) : EX X (.Subscript a (.Constant (.int 1) j pb) pos) Γ d (fun y => ∃ x, post (x, y)) :=
  PE.imp (pe_ix ix_list ha (ev_int (Γ := Γ)) (fun _ _ => rfl)) fun σ H Q ⟨F0, H0, F, ok, q⟩ => ⟨F0, H0, F, ok, fun x v F1 H1 hp g1 ⟨l, v1, v2, e, hl, q1, q2⟩ => ⟨F0, H0, F1, ok.grow g1, fun w F2 H2 g2 hw =>
    ⟨l, [v1, v2], 1, v2, e, hw, SqL.of (g2.sub _ _ (g2.ff _ _ hl)), rfl, q x.2 v2 F2 H2 ⟨x.1, hp⟩ (g1.trans g2) (d.mono g2.ff q2)⟩⟩⟩
end
section
variable {X : Cx} {Γ : List Sl} {ρ : Type} {c : Rp ρ} {e : Expr} {es : List Expr} {pos p : Pos}
theorem ex_cal {n : Str} {k : Nat} {ι : Type} {As : ι → List Sl} {pre : ι → Prop} {post : ι → ρ → Prop} {post' : ρ → Prop} (G : Dfp X.prog X.w X.K X.mg X.base k n As pre (fun _ => c) post) (hr : Room k X.A) (a : ι) (ha : ES X (e :: es) Γ (As a)) (hp : pre a) (hq : post a = post' := by rfl)
    (hg : Gl X n := by rfl) (hdb : (n == ("__debug__" : Str)) = false := by decide) (he : starEach (e :: es) X.env = (false, eval e X.env) :: starEach es X.env := by rfl) (hpl : (backTo pos (starEach es X.env)).any (·.1) = false := by rfl) :
    EX X (.Call (.Name n p) (e :: es) [] pos) Γ c post' := hq ▸ ex_call G hr a ha hp (hg := hg) (hdb := hdb) (he := he) (hpl := hpl)
end
theorem GR_bags {ans : List Nat} {wd p : Nat} {fo : Fnd} {b : Int} {n : Nat} (ia : isAns ans = true) (h1 : 1 ≤ wd) (h4 : wd ≤ 4) (p1 : 1 ≤ p) (p3 : p ≤ 3) (hne : fo ≠ []) (g : FG (kindsM ans wd) p fo b n) (hb : b < 2 ^ 50) (hn : n ≤ 10000) : GB ans wd p (bagsM fo) := by
  have hs := g.sz
  have hl : (bagsM fo).length = fo.length := by unfold bagsM; rw [List.length_map]
  have hq : ∀ x ∈ bagsM fo, ∃ q ∈ fo, x = (q.2, q.1) := fun x hx => by
    obtain ⟨q, hq, e⟩ := List.mem_map.mp hx
    exact ⟨q, hq, e.symm⟩
  have hle : ∀ (l : Fnd), (∀ q ∈ l, 1 ≤ q.2) → 0 ≤ (l.map (·.2)).sum ∧ ∀ q ∈ l, q.2 ≤ (l.map (·.2)).sum := by
    intro l
    induction l with
    | nil => intro _; exact ⟨Int.le_refl _, fun q h => (List.not_mem_nil h).elim⟩
    | cons r l ih =>
      intro h
      obtain ⟨i1, i2⟩ := ih fun q hq => h q (List.mem_cons_of_mem _ hq)
      have hr := h r List.mem_cons_self
      rw [List.map_cons, List.sum_cons]
      refine ⟨by omega, fun q hq => ?_⟩
      rcases List.mem_cons.mp hq with rfl | hq
      · omega
      · have := i2 q hq
        omega
  have ht := g.tot
  refine ⟨ia, h1, by omega, p1, by omega, by rw [hl]; exact List.length_pos_iff.mpr hne, by omega, fun x hx => ?_, fun x hx => ?_, fun x hx => ?_, fun x hx => ?_⟩
  all_goals obtain ⟨q, hq1, rfl⟩ := hq x hx
  · have h5 := g.pos q hq1
    have h6 := (hle fo g.pos).2 q hq1
    refine ⟨h5, ?_⟩
    show q.2 < 2 ^ 200
    have : (2 : Int) ^ 50 < 2 ^ 200 := by decide
    omega
  · exact g.len _ (List.mem_map_of_mem hq1)
  · exact g.mem _ (List.mem_map_of_mem hq1)
  · exact g.srt _ (List.mem_map_of_mem hq1)
theorem bags_eq {fo : Fnd} (nd : (fo.map (·.1)).Nodup) : (fo.map (·.1)).map (fun E => (fV fo E, E)) = bagsM fo := by
  rw [List.map_map]
  exact List.map_congr_left fun q hq => by
    show (fV fo q.1, q.1) = _
    rw [fV_at nd hq]
theorem gath_first {fo : Fnd} {p : Nat} (nd : (fo.map (·.1)).Nodup) (hne : fo ≠ []) (hl : ∀ E ∈ fo.map (·.1), E.length = p) : ((gathM (bagsM fo)).getD 0 (0, [])).2.length = p := by
  have h1 : (gathM (bagsM fo)).length = fo.length := by rw [gath_len, gW_bags nd]
  have h2 : 0 < (gathM (bagsM fo)).length := by rw [h1]; exact List.length_pos_iff.mpr hne
  have h3 := gath_mem (List.mem_of_getElem? (getD_some (l := gathM (bagsM fo)) (0, []) h2))
  obtain ⟨x, hx, e⟩ := List.mem_map.mp h3
  obtain ⟨q, hq, rfl⟩ := List.mem_map.mp hx
  rw [← e]
  exact hl _ (List.mem_map_of_mem hq)
/-- chances: a ratio with a bottom that divides D, at most 1 -/
theorem frac_pr {a d : Int} (h0 : 0 < d) (h1 : d < 2 ^ 64) : Pr (ofR (frac a d)) := dth_pr h0 h1 a
theorem frac_lt_iff {a b c d : Int} (hb : 0 < b) (hd : 0 < d) : frac a b < frac c d ↔ a * d < c * b := by
  rw [frac_eq, frac_eq]
  have h1 : (0 : Rat) < (b : Rat) := by exact_mod_cast hb
  have h2 : (0 : Rat) < (d : Rat) := by exact_mod_cast hd
  have e : (c : Rat) / d * b = (c * b) / d := by grind
  rw [Rat.div_lt_iff h1, e, Rat.lt_div_iff h2, ← Rat.intCast_mul, ← Rat.intCast_mul]
  exact Rat.intCast_lt_intCast
theorem gfold_nn : ∀ (l : List Int) (s : Int), 0 ≤ s → 0 ≤ l.foldl (fun s x => gcdI s x) s
  | [], s, h => h
  | x :: l, s, h => by
    rw [List.foldl_cons]
    exact gfold_nn l _ (by unfold gcdI; omega)
theorem mem_le_sum {l : Fnd} (h : ∀ q ∈ l, 1 ≤ q.2) {q : Bag × Int} (hq : q ∈ l) : q.2 ≤ (l.map (·.2)).sum := by
  have : ∀ (l : Fnd), (∀ q ∈ l, 1 ≤ q.2) → 0 ≤ (l.map (·.2)).sum ∧ ∀ q ∈ l, q.2 ≤ (l.map (·.2)).sum := by
    intro l
    induction l with
    | nil => intro _; exact ⟨Int.le_refl _, fun q h => (List.not_mem_nil h).elim⟩
    | cons r l ih =>
      intro h
      obtain ⟨i1, i2⟩ := ih fun q hq => h q (List.mem_cons_of_mem _ hq)
      have hr := h r List.mem_cons_self
      rw [List.map_cons, List.sum_cons]
      refine ⟨by omega, fun q hq => ?_⟩
      rcases List.mem_cons.mp hq with rfl | hq
      · omega
      · have := i2 q hq
        omega
  exact (this l h).2 q hq
def spLaw (K : PySem.W.Frag) : Sp := fun vs H Q _ => ∃ (a : Addr) (ns : List Int), vs = [.ref a] ∧ SqL K H a (ns.map V.int) ∧ ns.length ≤ 63 ∧ ∀ H', Q (.bl true) H'
section
variable {P : Program} {w : World} {K : PySem.W.Frag} {mg : Str → Option Value} {base : Heap}
abbrev sLaw : Stmt := topS 42
theorem scLaw : FnScope ["script", "built", "answers", "width", "places", "found", "source", "whole", "seen", "shown", "examples", "k", "view", "due", "told", "comes", "answered"] ["script"] (defScope sLaw) := ⟨rfl, rfl, rfl, by decide +kernel, rfl, by decide +kernel, by decide +kernel⟩
theorem D_law (B : Bt mg) (C : CnS K mg) (G1 : T_shape P w K mg base) (G2 : T_lsrc P w K mg base) (G3 : T_Source P w K mg base) (G4 : T_byO P w K mg base) (G5 : T_exB P w K mg base) (G6 : T_timed P w K mg base) (G7 : T_worth P w K mg base) (G8 : T_isratio P w K mg base) (G9 : T_isless P w K mg base) (G10 : T_ratio P w K mg base "_law_ratio")
    {f : Addr} {fd : FuncData} (F : FunD K "law" "law" (defArgs sLaw) (defBody sLaw) (defScope sLaw) [] [] f fd) :
    FnOk P w K mg base CX0 9 f fd ["script"] (spZ K (fun ns : List Int => [.v rScr ns]) (fun _ => True) (fun _ => rBool) (fun _ => true)) := by
  refine F.z scLaw (fun _ => rfl) (by decide) fun ns _ cdv A outer s H E hr => ?_
  show SS _ _ [.v rScr ns, .un, .un, .un, .un, .un, .un, .un, .un, .un, .un, .un, .un, .un, .un, .un, .un] (outR rBool true)
  refine ss_setX 1 scLaw.nd (ex_call G1 (hr.mono (by decide)) (ns, 0) (es_cons (ev 0) (es_cons ev_int es_nil)) (by show 0 ≤ 900; omega)) fun x hx => ?_
  obtain ⟨ans, wi, pi⟩ := x
  obtain ⟨wd, p, e1, e2, ia, hw1, hw4, hp1, hp3⟩ := hx
  dsimp only at e1 e2 ia
  subst e1 e2
  refine ss_set 2 scLaw.nd (ev_iL3 (c := rTx) (d := rInt) (k := rInt) (x := ans) (y := (wd : Int)) (z := (p : Int)) (ev 1)) ?_
  refine ss_set 3 scLaw.nd (ev_jL3 (c := rTx) (d := rInt) (k := rInt) (x := ans) (y := (wd : Int)) (z := (p : Int)) (ev 1)) ?_
  refine ss_set 4 scLaw.nd (ev_kL3 (c := rTx) (d := rInt) (k := rInt) (x := ans) (y := (wd : Int)) (z := (p : Int)) (ev 1)) ?_
  refine ss_setX 5 scLaw.nd (ex_sndL2 (ex_cal G2 (hr.mono (by decide)) (ns, 1, ans, wd, p) (es_cons (ev 0) (es_cons ev_int (es_cons (ev 2) (es_cons (ev 3) (es_cons (ev 4) es_nil))))) ⟨by show 1 ≤ 900; omega, ia, ⟨hw1, hw4⟩, hp1, hp3⟩)) fun fo hfo => ?_
  obtain ⟨_, hne, bb, nn, hg, hb, hn⟩ := hfo
  replace hg : FG (kindsM ans wd) p fo bb nn := hg
  replace hne : fo ≠ [] := hne
  have hF := hg.fo hne ⟨hp1, by omega⟩ hb hn
  have hal := (isAns_iff ia).1
  have hpw := (isAns_iff ia).2.2
  have hsz : fo.length ≤ 10000 := hF.sz
  have hkl : (fo.map (·.1)).length ≤ 16777216 := by rw [List.length_map]; omega
  refine ss_set 6 scLaw.nd (x := (ans, wd, gathM (bagsM fo))) (ev_mak G3 (hr.mono (by decide)) (ans, wd, p, bagsM fo) (es_cons (ev 2) (es_cons (ev 3) (es_cons (EV.cast (ev_tupL B.tuple (EL.of (EO.fz (eo_lc0 (fun E0 : Bag => (fV fo E0, E0)) scLaw.nd (it_N (N := nBg) (c := rInt) (ev 5)) (own := [("examples", 10)]) (blkOk_by (by kernel_rfl)) (fun _ _ _ _ _ => gz_name 10 scLaw.nd) (by decide) (fun s H C cl fp E0 hE => ev_tup2 (ev_getN (N := nBg) (c := rInt) hr (EN.of (ev 5)) (ev 10) (fV_some hE)) (ev 10)) hkl)))) (bags_eq hF.nd)) es_nil))) (GR_bags ia hw1 hw4 hp1 hp3 hne hg hb hn)) ?_
  refine ss_set 7 scLaw.nd (x := whM fo) (ev_sum rfl B.sum (EL.of (EO.fz (eo_lc0 (fV fo) scLaw.nd (it_N (N := nBg) (c := rInt) (ev 5)) (own := [("examples", 10)]) (blkOk_by (by kernel_rfl)) (fun _ _ _ _ _ => gz_name 10 scLaw.nd) (by decide) (fun s H C cl fp E0 hE => ev_getN (N := nBg) (c := rInt) hr (EN.of (ev 5)) (ev 10) (fV_some hE)) hkl)))) ?_
  refine ss_set 8 scLaw.nd (x := tabR (seenM fo p)) (ev_cal G4 (hr.mono (by decide)) (fo, p) (es_cons (ev 5) es_nil) hF) ?_
  refine ss_set 9 scLaw.nd ev_int ?_
  obtain ⟨keys, hkeys⟩ : ∃ keys, keys = fo.map (·.1) := ⟨_, rfl⟩
  have hkm : ∀ E0 ∈ keys, E0.length = p ∧ (∀ x ∈ E0, x ∈ kindsM ans wd) ∧ SrK E0 := fun E0 h => by
    rw [hkeys] at h
    exact ⟨hg.len E0 h, hg.mem E0 h, hg.srt E0 h⟩
  have hnd : keys.Nodup := by rw [hkeys]; exact hF.nd
  have hkN : keys.length = fo.length := by rw [hkeys, List.length_map]
  have hlb : ∀ b ∈ gathM (bagsM fo), b.2.length = p := fun b hb => by
    obtain ⟨x, hx, e⟩ := List.mem_map.mp (gath_mem hb)
    obtain ⟨q, hq, rfl⟩ := List.mem_map.mp hx
    rw [← e]
    exact hg.len _ (List.mem_map_of_mem hq)
  have hgl : (gathM (bagsM fo)).length ≤ 10000 := by rw [gath_len, gW_bags hF.nd]; exact hsz
  have hg0 := gath_first (p := p) hF.nd hne hg.len
  have hwp := hF.pos
  have hwl := hF.le
  have htot : 0 < totM (gathM (bagsM fo)) ∧ totM (gathM (bagsM fo)) < 2 ^ 60 := by
    have h1 := tot_gath hF.nd
    have h2 : 0 ≤ gSh (bagsM fo) := by
      unfold gSh
      exact gfold_nn _ _ (Int.le_refl 0)
    have h3 : gSh (bagsM fo) ≠ 0 := fun e => by rw [e, Int.mul_zero] at h1; omega
    have h4 : 0 < totM (gathM (bagsM fo)) := by
      refine Int.pos_of_mul_pos_left (b := gSh (bagsM fo)) ?_ ?_ <;> omega
    refine ⟨h4, ?_⟩
    have h5 : totM (gathM (bagsM fo)) * 1 ≤ totM (gathM (bagsM fo)) * gSh (bagsM fo) := Int.mul_le_mul_of_nonneg_left (by omega) (by omega)
    omega
  refine ss_forF (shownS keys p) 0 (fun sn => [.v rScr ns, .v rSh (ans, (wd : Int), (p : Int)), .v rTx ans, .v rInt (wd : Int), .v rInt (p : Int), .v (rND P w nBg rInt) fo, .v (rSrc K) (ans, wd, gathM (bagsM fo)), .v rInt (whM fo), .v (rND P w nVw rRt) (tabR (seenM fo p)), .v rInt sn, .un, .un, .un, .un, .un, .un, .un]) (fun _ _ => True) (it_L (ev_cal G5 (hr.mono (by decide)) (ans, wd, p) (es_cons (ev 2) (es_cons (ev 3) (es_cons (ev 4) es_nil))) ⟨by show ans.length ≤ 4; omega, by show wd ≤ 6; omega, by show p ≤ 4; omega⟩)) (gz_name 10 scLaw.nd) ⟨.inr rfl, .inr rfl, .inr rfl, .inr rfl, .inr rfl, .inr rfl, .inr rfl, .inr rfl, .inr rfl, .inr rfl, .inr rfl, .inr rfl, .inr rfl, .inr rfl, .inr rfl, .inr rfl, .inr rfl, trivial⟩ trivial (fun _ _ _ _ _ => trivial) (fun i E0 sn hx _ => ?_) (fun _ => ?_)
  · have hE := (exB_mem hpw).mp (List.mem_of_getElem? hx)
    obtain ⟨hl, hmem, hso⟩ := hE
    replace hl : E0.length = p := hl
    refine ss_forF (fun (s : Int) (_ : Int) => if E0 ∈ keys then s + 1 else s) sn (fun sn => [.v rScr ns, .v rSh (ans, (wd : Int), (p : Int)), .v rTx ans, .v rInt (wd : Int), .v rInt (p : Int), .v (rND P w nBg rInt) fo, .v (rSrc K) (ans, wd, gathM (bagsM fo)), .v rInt (whM fo), .v (rND P w nVw rRt) (tabR (seenM fo p)), .v rInt sn, .v (rTd rKd) E0, .un, .un, .un, .un, .un, .un]) (fun _ _ => True) (it_range E0.length B.range (ev_lenT B.len (EV.td (ev 10))) rfl (by omega)) (gz_name 11 scLaw.nd) ⟨.inr rfl, .inr rfl, .inr rfl, .inr rfl, .inr rfl, .inr rfl, .inr rfl, .inr rfl, .inr rfl, .inr rfl, .inr rfl, .inr rfl, .inr rfl, .inr rfl, .inr rfl, .inr rfl, .inr rfl, trivial⟩ trivial (fun _ _ _ _ _ => trivial) (fun k x sn hy _ => ?_) (fun _ => ?_)
    · obtain ⟨hk, rfl⟩ := rng_get.mp hy
      rw [show ((0 : Int) + (k : Int)) = (k : Int) by omega]
      have hgk : E0[k]? = some (E0.getD k (0, [])) := getD_some _ hk
      obtain ⟨cn, hcn⟩ : ∃ cn, cn = cntM E0 (E0.getD k (0, [])) := ⟨_, rfl⟩
      have hc1 : 1 ≤ cn ∧ cn ≤ 3 := by
        rw [hcn]
        unfold cntM
        have h8 : 0 < E0.countP fun y => decide (y = E0.getD k (0, [])) := List.countP_pos_iff.mpr ⟨_, List.mem_of_getElem? hgk, decide_eq_true rfl⟩
        have h9 : (E0.countP fun y => decide (y = E0.getD k (0, []))) ≤ E0.length := List.countP_le_length
        omega
      obtain ⟨S, hS⟩ : ∃ S, S = (dlook (seenM fo p) (vj E0 k)).getD 0 := ⟨_, rfl⟩
      have hSA : S = frac (AofM fo (vj E0 k)) (whM fo * (p : Int)) := by rw [hS]; exact seen_get hF hp3 hg.srt _
      have hcur : (dlook (tabR (seenM fo p)) (vj E0 k)).getD (0, 1) = ofR S := by
        rw [tabR_look, hS]
        cases dlook (seenM fo p) (vj E0 k) with
        | none => rfl
        | some y => rfl
      have hD : 0 < whM fo * (p : Int) ∧ whM fo * (p : Int) < 2 ^ 53 := by
        refine ⟨Int.mul_pos hwp (by omega), ?_⟩
        have : whM fo * (p : Int) ≤ 2 ^ 50 * 3 := Int.mul_le_mul (by omega) (by omega) (by omega) (by decide)
        omega
      have hA := A_bd hF hg.pos (vj E0 k)
      have hPS : Pr (ofR S) := by rw [hSA]; exact frac_pr hD.1 (by omega)
      have hwe := worth_eq hF hp3 hg.srt E0 k (by omega)
      rw [← hS, ← hcn] at hwe
      refine ss_set 12 scLaw.nd (x := vj E0 k) (ev_tup2 (EV.cast (ev_catT (ev_cutT (EV.td (ev 10)) so_none (so k (ev 11))) (ev_cutT (EV.td (ev 10)) (so (k + 1) (ev_add (ev 11) ev_int)) so_none) (by simp; omega)) (by simp [viewM])) (ev_fst2 (x := (E0.getD k (0, [])).1) (y := (E0.getD k (0, [])).2) (ev_ixT (EV.td (ev 10)) (ev 11) (atI_nat hgk)))) ?_
      refine ss_set 13 scLaw.nd (x := ofR (S * frac 1 cn)) (ev_cal G6 (hr.mono (by decide)) (ofR S, (1, cn)) (es_cons (EV.cast (ev_getOrN (N := nVw) (c := rRt) hr (EN.of (ev 8)) (ev 12) (ev_tup2 ev_int ev_int) ⟨rfl, rfl, rfl, rfl⟩) hcur) (es_cons (ev_tup2 ev_int (EV.cast (ev_countT dKd pl_kd hr (ev 10) (ev_ixT (EV.td (ev 10)) (ev 11) (atI_nat hgk))) hcn.symm)) es_nil)) ⟨hPS, ⟨by show 0 < cn; omega, by show cn < 2 ^ 64; omega⟩, by show -(2 ^ 64) < (1 : Int); decide, by show (1 : Int) < 2 ^ 64; decide⟩ (by show ofR (frac (S.num * 1) ((S.den : Int) * cn)) = _; rw [← frac_mul]; congr 1; exact congrArg (· * frac 1 cn) (ofR_frac S))) ?_
      refine ss_set 14 scLaw.nd (x := ofR (S * frac 1 cn)) (ev_cal G7 (hr.mono (by decide)) ((ans, wd, gathM (bagsM fo)), E0, k) (es_cons (ev 6) (es_cons (ev 10) (es_cons (ev 11) es_nil))) ⟨hgl, fun b hb => by have := hlb b hb; omega, hk, by show E0.length ≤ 1000; omega, htot.1, htot.2, by show 0 < ((gathM (bagsM fo)).getD 0 (0, [])).2.length; rw [hg0]; omega⟩ (by show worthM (gathM (bagsM fo)) ((gathM (bagsM fo)).getD 0 (0, [])).2.length E0 k = _; rw [hg0, hwe])) ?_
      refine ss_if (EW.eb (ew_or (eb_not (eb_call G8 (hr.mono (by decide)) (S * frac 1 cn) (es_cons (ev 14) es_nil) trivial)) fun _ => ew_or1 (eb_neD (d2 dInt dInt) hr (ev 14) (ev 13) ⟨trivial, trivial⟩ ⟨trivial, trivial⟩))) (fun h => ?_) (fun _ => ss_nil ?_)
      · exfalso
        simp at h
      refine ss_if (eb_inN (N := nBg) (c := rInt) hr (EV.td (ev 10)) (EN.of (ev 5))) (fun h => ?_) (fun h => ?_)
      · have hmE : E0 ∈ fo.map (·.1) := dlook_isSome.mp h
        have hfE := fV_some hmE
        have hq1 : 1 ≤ fV fo E0 ∧ fV fo E0 ≤ whM fo := by
          obtain ⟨q, hq, e⟩ := List.mem_map.mp hmE
          rw [← e, fV_at hF.nd hq]
          refine ⟨hg.pos q hq, ?_⟩
          rw [whM_eq hF.nd]
          exact mem_le_sum hg.pos hq
        have hage := A_ge hF hg.pos (vj E0 k) hmE
        have hcl := cnt_le hso hk
        rw [← hcn] at hcl
        generalize hf1 : fV fo E0 = f1 at *
        generalize hAA : AofM fo (vj E0 k) = A1 at *
        have hA2 : f1 * cn ≤ A1 := Int.le_trans (Int.mul_le_mul_of_nonneg_left hcl (by omega)) hage
        have hfc : 1 * 1 ≤ f1 * cn := Int.mul_le_mul hq1.1 hc1.1 (by decide) (by omega)
        generalize hDD : whM fo * (p : Int) = D0 at *
        have hS0 : S ≠ 0 := by
          rw [hSA]
          intro e
          have h3 : frac A1 D0 = frac 0 1 := by rw [e, frac_zero]
          have h4 := (frac_iff (by omega) (by decide)).mp h3
          omega
        have hlkS : ∃ S2, dlook (seenM fo p) (vj E0 k) = some S2 := by
          cases e : dlook (seenM fo p) (vj E0 k) with
          | none => rw [e] at hS; exact (hS0 hS).elim
          | some y => exact ⟨y, rfl⟩
        have hlkT : dlook (tabR (seenM fo p)) (vj E0 k) = some (ofR S) := by
          obtain ⟨S2, h5⟩ := hlkS
          rw [tabR_look, h5]
          rw [h5] at hS
          rw [hS]
          rfl
        have hkE : E0 ∈ keys := by rw [hkeys]; exact hmE
        refine ss_set 9 scLaw.nd (ev_add (ev 9) ev_int) ?_
        have sm1 : Sm D0 := sm_of hD.1 (by omega)
        obtain ⟨cm, hcm⟩ : ∃ cm, cm = frac (f1 * cn) D0 := ⟨_, rfl⟩
        have hPc : Pr (ofR cm) := by rw [hcm]; exact frac_pr hD.1 (by omega)
        have evD : ∀ {X : Cx} {Γ : List Sl}, True := trivial
        refine ss_set 15 scLaw.nd (x := ofR cm) (ev_cal G10 (hr.mono (by decide)) (f1 * cn, D0) (es_cons (ev_mul (ev_getN (N := nBg) (c := rInt) hr (EN.of (ev 5)) (EV.td (ev 10)) hfE) (EV.cast (ev_countT dKd pl_kd hr (ev 10) (ev_ixT (EV.td (ev 10)) (ev 11) (atI_nat hgk))) hcn.symm) (.inr ⟨by omega, by omega⟩)) (es_cons (EV.cast (ev_mul (ev 7) (ev 4) (.inr ⟨by omega, by omega⟩)) hDD) es_nil)) sm1 (by rw [hcm])) ?_
        have hle : ¬ S < cm := by
          rw [hSA, hcm, frac_lt_iff hD.1 hD.1]
          exact Int.not_lt.mpr (Int.mul_le_mul_of_nonneg_right hA2 (by omega))
        refine ss_if (eb_cal G9 (hr.mono (by decide)) (ofR S, ofR cm) (es_cons (ev_getN (N := nVw) (c := rRt) hr (EN.of (ev 8)) (ev 12) hlkT) (es_cons (ev 15) es_nil)) ⟨hPS, hPc⟩ (y := false) (decide_eq_false fun z => hle (ofR_lt.mp z))) (fun h => absurd h (by decide)) (fun _ => ss_nil ?_)
        have hSpos : 0 < S := by
          have h1 : frac 0 1 < S := by
            rw [hSA, frac_lt_iff (by decide) hD.1]
            omega
          rw [frac_zero] at h1
          exact h1
        have hS1 : ¬ (1 : Rat) < S := by
          have h1 : ¬ frac 1 1 < S := by
            rw [hSA, frac_lt_iff (by decide) hD.1]
            omega
          rwa [show frac 1 1 = (1 : Rat) from rfl] at h1
        have hSn : 0 < (ofR S).1 ∧ (ofR S).1 ≤ (ofR S).2 := by
          have h1 : 0 < S.num := by
            have := ofR_lt.mpr hSpos
            simpa [ofR] using this
          have h2 := Rat.lt_iff 1 S
          refine ⟨h1, ?_⟩
          show S.num ≤ (S.den : Int)
          have h3 : ¬ ((1 : Rat).num * (S.den : Int) < S.num * ((1 : Rat).den : Int)) := fun z => hS1 (h2.mpr z)
          simp at h3
          exact h3
        have hw2 := hPS.2
        have hw3 := hPc.2
        have hw4 := hPc.1
        have sm2 : Sm ((ofR cm).2 * (ofR S).1) := sm_mul ⟨hw4, hw3⟩ ⟨hSn.1, by omega⟩
        obtain ⟨an, han⟩ : ∃ an, an = frac f1 1 * frac cn 1 * frac 1 A1 := ⟨_, rfl⟩
        have hA0 : 0 < A1 := by omega
        have hand : cm = an * S := by
          rw [hcm, han, hSA, frac_mul, frac_mul, frac_mul]
          refine (frac_iff (by omega) (Int.ne_of_gt (Int.mul_pos (by omega) hD.1))).mpr ?_
          grind
        have hane : frac ((ofR cm).1 * (ofR S).2) ((ofR cm).2 * (ofR S).1) = an := by
          have h1 : frac (ofR cm).1 (ofR cm).2 = cm := ofR_frac cm
          have h2 : frac (ofR S).1 (ofR S).2 = S := ofR_frac S
          have h3 : frac (ofR S).2 (ofR S).1 = S⁻¹ := ((congrArg (fun q : Rat => q⁻¹) h2.symm).trans (Rat.inv_divInt _ _)).symm
          rw [← frac_mul, h1, h3, hand, Rat.mul_assoc, Rat.mul_inv_cancel _ hS0, Rat.mul_one]
        have hanf : an = frac (f1 * cn) A1 := by
          rw [han, frac_mul, frac_mul]
          simp
        have hPa : Pr (ofR an) := by rw [hanf]; exact frac_pr hA0 (by omega)
        have han1 : 0 ≤ (ofR an).1 ∧ (ofR an).1 ≤ (ofR an).2 := by
          have h4 : ¬ an < 0 := by
            have h1 : ¬ an < frac 0 1 := by
              rw [hanf, frac_lt_iff hA0 (by decide)]
              omega
            rwa [frac_zero] at h1
          have h5 : ¬ (1 : Rat) < an := by
            have h1 : ¬ frac 1 1 < an := by
              rw [hanf, frac_lt_iff (by decide) hA0]
              omega
            rwa [show frac 1 1 = (1 : Rat) from rfl] at h1
          have h2 := Rat.lt_iff 1 an
          refine ⟨Rat.num_nonneg.mpr (Rat.not_lt.mp h4), ?_⟩
          show an.num ≤ (an.den : Int)
          have h3 : ¬ ((1 : Rat).num * (an.den : Int) < an.num * ((1 : Rat).den : Int)) := fun z => h5 (h2.mpr z)
          simp at h3
          exact h3
        have hPa2 := hPa.2
        refine ss_set 16 scLaw.nd (x := ofR an) (ev_cal G10 (hr.mono (by decide)) ((ofR cm).1 * (ofR S).2, (ofR cm).2 * (ofR S).1) (es_cons (ev_mul (ev_fst2 (x := (ofR cm).1) (y := (ofR cm).2) (ev 15)) (ev_snd2 (x := (ofR S).1) (y := (ofR S).2) (ev_getN (N := nVw) (c := rRt) hr (EN.of (ev 8)) (ev 12) hlkT)) (.inr ⟨by have := hPS.1; omega, by omega⟩)) (es_cons (ev_mul (ev_snd2 (x := (ofR cm).1) (y := (ofR cm).2) (ev 15)) (ev_fst2 (x := (ofR S).1) (y := (ofR S).2) (ev_getN (N := nVw) (c := rRt) hr (EN.of (ev 8)) (ev 12) hlkT)) (.inr ⟨by omega, by omega⟩)) es_nil)) sm2 (by show ofR (frac _ _) = _; rw [hane])) ?_
        have hPw : Pr (ofR (S * frac 1 cn)) := by
          rw [hSA, frac_mul]
          refine frac_pr (Int.mul_pos hD.1 (by omega)) ?_
          have : D0 * cn ≤ 2 ^ 53 * 3 := Int.mul_le_mul (by omega) (by omega) (by omega) (by decide)
          omega
        refine ss_if (eb_neD (d2 dInt dInt) hr (ev_cal (y := ofR (frac f1 D0)) G6 (hr.mono (by decide)) (ofR (S * frac 1 cn), ofR an) (es_cons (ev 14) (es_cons (ev 16) es_nil)) ⟨hPw, hPa, by show -(2 ^ 64) < (ofR an).1; omega, by show (ofR an).1 < 2 ^ 64; omega⟩ (by
          show ofR (frac (((ofR (S * frac 1 cn)).1) * (ofR an).1) (((ofR (S * frac 1 cn)).2) * (ofR an).2)) = _
          rw [← frac_mul, ofR_frac, ofR_frac]
          congr 1
          rw [hanf, hSA, frac_mul, frac_mul]
          refine (frac_iff (Int.mul_ne_zero (Int.mul_ne_zero (by omega) (by omega)) (by omega)) (by omega)).mpr ?_
          grind)) (ev_cal (y := ofR (frac f1 D0)) G10 (hr.mono (by decide)) (f1, D0) (es_cons (ev_getN (N := nBg) (c := rInt) hr (EN.of (ev 5)) (EV.td (ev 10)) hfE) (es_cons (EV.cast (ev_mul (ev 7) (ev 4) (.inr ⟨by omega, by omega⟩)) hDD) es_nil)) sm1) ⟨trivial, trivial⟩ ⟨trivial, trivial⟩) (fun h => ?_) (fun _ => ss_nil ?_)
        · exfalso
          simp at h
        refine ss_nil (ss_nil ?_)
        show Wk _ _
        rw [if_pos hkE]
        exact ⟨.inr rfl, .inr rfl, .inr rfl, .inr rfl, .inr rfl, .inr rfl, .inr rfl, .inr rfl, .inr rfl, .inr rfl, .inr rfl, .inl rfl, .inl rfl, .inl rfl, .inl rfl, .inl rfl, .inl rfl, trivial⟩
      · refine ss_nil (ss_nil ?_)
        have hkE : ¬ E0 ∈ keys := fun z => by
          rw [hkeys] at z
          have := dlook_isSome.mpr z
          rw [this] at h
          cases h
        show Wk _ _
        rw [if_neg hkE]
        exact ⟨.inr rfl, .inr rfl, .inr rfl, .inr rfl, .inr rfl, .inr rfl, .inr rfl, .inr rfl, .inr rfl, .inr rfl, .inr rfl, .inl rfl, .inl rfl, .inl rfl, .inl rfl, .inl rfl, .inl rfl, trivial⟩
    · refine ss_nil ?_
      have e : (rng 0 E0.length).foldl (fun (s : Int) (_ : Int) => if E0 ∈ keys then s + 1 else s) sn = shownS keys p sn E0 := by
        rw [hl]
        unfold shownS
        by_cases c : E0 ∈ keys
        · simp only [if_pos c]
          have : ∀ (l : List Int) (s : Int), l.foldl (fun (s : Int) (_ : Int) => s + 1) s = s + (l.length : Int) := by
            intro l
            induction l with
            | nil => intro s; simp
            | cons x l ih => intro s; rw [List.foldl_cons, ih, List.length_cons]; omega
          rw [this, rng_len]
        · simp only [if_neg c]
          generalize rng 0 p = l
          induction l with
          | nil => rfl
          | cons x l ih => rw [List.foldl_cons]; exact ih
      rw [e]
      exact ⟨.inr rfl, .inr rfl, .inr rfl, .inr rfl, .inr rfl, .inr rfl, .inr rfl, .inr rfl, .inr rfl, .inr rfl, .inl rfl, .inl rfl, .inl rfl, .inl rfl, .inl rfl, .inl rfl, .inl rfl, trivial⟩
  · refine ss_ret (ev_eqI (ev 9) (ev_mul (ev 4) (ev_lenN B.len (EN.of (ev 5))) (.inl ⟨by omega, by omega⟩))) ?_
    show decide (_ = _) = true
    rw [shown_all hpw hnd hkm, hkN]
    exact decide_eq_true rfl
end
end Q

set_option Elab.async false
set_option linter.all false
set_option maxRecDepth 100000
set_option maxHeartbeats 0
namespace Q
open PySem PySem.Spec PyProof.Rows L2 Z
def dd0 : He.DefD := dTop "common_divisor" (topS 13)
def dd1 : He.DefD := dTop "_law_divisor" (topS 29)
def dd2 : He.DefD := dTop "ratio" (topS 14)
def dd3 : He.DefD := dTop "_law_ratio" (topS 30)
def dd4 : He.DefD := dTop "is_answers" (topS 8)
def dd5 : He.DefD := dTop "kinds_of" (topS 10)
def dd6 : He.DefD := dTop "view_of" (topS 11)
def dd7 : He.DefD := dTop "is_weight" (topS 20)
def dd8 : He.DefD := dTop "is_example_bag" (topS 21)
def dd9 : He.DefD := dTop "check_bags" (topS 22)
def dd10 : He.DefD := dTop "gathered" (topS 23)
def dd11 : He.DefD := dMet "Source" "__init__" "Source.__init__" (inClass (topS 24) 0)
def dd12 : He.DefD := dTop "view_weights" (topS 16)
def dd13 : He.DefD := dTop "worth_of" (topS 17)
def dd14 : He.DefD := dTop "_law_cell" (topS 27)
def dd15 : He.DefD := dTop "_law_digits" (topS 28)
def dd16 : He.DefD := dTop "_law_whole" (topS 26)
def dd17 : He.DefD := dTop "_law_is_ratio" (topS 31)
def dd18 : He.DefD := dTop "_law_is_less" (topS 32)
def dd19 : He.DefD := dTop "_law_added" (topS 33)
def dd20 : He.DefD := dTop "_law_timed" (topS 34)
def dd21 : He.DefD := dTop "_law_orders" (topS 35)
def dd22 : He.DefD := dTop "_law_all_bags" (topS 36)
def dd23 : He.DefD := dTop "_law_kinds" (topS 37)
def dd24 : He.DefD := dTop "_law_example_bags" (topS 38)
def dd25 : He.DefD := dTop "_law_small_shape" (topS 40)
def dd26 : He.DefD := dTop "_law_by_orders" (topS 41)
def dd27 : He.DefD := dTop "_law_source" (topS 39)
def dd28 : He.DefD := dTop "law" (topS 42)
def fns : List He.DefD := ([dd0, dd1, dd2, dd3, dd4, dd5, dd6, dd7, dd8, dd9, dd10, dd11, dd12, dd13, dd14, dd15, dd16, dd17, dd18, dd19, dd20, dd21, dd22, dd23, dd24, dd25, dd26, dd27, dd28] : List He.DefD)
def fas : List He.Fa := ([.free "len", .free "range", .free "int", .free "tuple", .free "list", .free "sorted", .free "sum", .free "max", .free "min", .free "abs", .free "bool", .free "str", .free "isinstance", .glo "common_divisor", .glo "_law_divisor", .glo "ratio", .glo "_law_ratio", .glo "is_answers", .glo "kinds_of", .glo "view_of", .glo "is_weight", .glo "is_example_bag", .glo "check_bags", .int "MOST_EXAMPLES" 4, .glo "gathered", .meth "Source" "__init__", .cls "Source", .mkr "Source", .glo "Source", .noat "Source" "answers"] : List He.Fa) ++ ([.noat "Source" "width", .noat "Source" "bags", .noat "Source" "places", .noat "Source" "total", .int "MOST_WIDTH" 6, .glo "view_weights", .glo "worth_of", .glo "_law_cell", .glo "_law_digits", .glo "_law_whole", .glo "_law_is_ratio", .glo "_law_is_less", .glo "_law_added", .glo "_law_timed", .glo "_law_orders", .glo "_law_all_bags", .glo "_law_kinds", .glo "_law_example_bags", .glo "_law_small_shape", .glo "_law_by_orders", .glo "_law_source", .glo "law"] : List He.Fa)
def exs : List (PySem.W.Frag → Bool) := ([] : List (PySem.W.Frag → Bool))
def loos : List Str := (["__name__", "SchoolError", "ZeroBottom", "BadAnswers", "BadWidth", "BadSource", "MOST_WIDTH", "is_answers", "kinds_of", "view_of", "common_divisor", "ratio", "view_weights", "worth_of", "MOST_EXAMPLES", "is_weight", "is_example_bag", "check_bags", "gathered", "Source", "_law_whole", "_law_cell", "_law_digits", "_law_divisor", "_law_ratio", "_law_is_ratio", "_law_is_less", "_law_added", "_law_timed", "_law_orders"] : List Str) ++ (["_law_all_bags", "_law_kinds", "_law_example_bags", "_law_source", "_law_small_shape", "_law_by_orders"] : List Str)
abbrev RR : PySem.W.OpenRow := PySem.W.OpenLaw.row PySem.Challenge.rw_oneleftout_k73_worths
abbrev hkk : PySem.W.Hook := hookZ 4 fas exs fns
def obb (s : PySem.W.SharedT) : He.AlD := obsZG 4 fas exs fns (HandSHeadRun.getT s)
theorem obb_eq (s : PySem.W.SharedT) : obb s = hkk.obs s.abs := obsZG_eq (HandSHeadRun.getT_eq s)
theorem run (w : World) : HandSHeadRun.RunEq RR (PySem.W.view RR.prog [42]) hkk obb 3000 loos w := by
  intro os
  kernel_rfl
theorem facts {P : Program} {w : World} {K : PySem.W.Frag} {h : Heap} {mg : Str → Option Value} {f : Addr} (X : K.In h) (G : h.Ns mainGlobals mg) (hfa : mg ("law" : Str) = some (.ref f)) (c : SaysZ fas exs fns K) :
    ∃ fd : FuncData, (∀ (s : Shared) (v : Value), BindsTo s fd ⟨[v], []⟩ [("script", v)]) ∧ ∀ base : Heap, K.In base → base.Ns mainGlobals mg → FnOk P w K mg base CX0 9 f fd ["script"] (spLaw K) := by
  have B : Bt mg := ⟨He.free_ok X G (c.fact 0), He.free_ok X G (c.fact 1), He.free_ok X G (c.fact 2), He.free_ok X G (c.fact 3), He.free_ok X G (c.fact 4), He.free_ok X G (c.fact 5), He.free_ok X G (c.fact 6), He.free_ok X G (c.fact 7), He.free_ok X G (c.fact 8), He.free_ok X G (c.fact 9), He.free_ok X G (c.fact 10), He.free_ok X G (c.fact 11), He.free_ok X G (c.fact 12)⟩
  have cCnS : CnS K mg := ⟨He.cls_ok (c.fact 26), He.mkr_ok (c.fact 27), He.glo_ok X G (c.fact 28), He.noat_ok (c.fact 29), He.noat_ok (c.fact 30), He.noat_ok (c.fact 31), He.noat_ok (c.fact 32), He.noat_ok (c.fact 33), He.int_ok X G (c.fact 34), He.int_ok X G (c.fact 23)⟩
  obtain ⟨fL, fd, FL, hm⟩ := (c.fn0 X G 28 51 (x := "law") (st := sLaw) (kwd := [])).ex
  have e : fL = f := by
    rw [hfa] at hm
    exact (Value.ref.inj (Option.some.inj hm)).symm
  subst e
  refine ⟨fd, fun s v => FL.bindsA (ps := ["script"]) (fun _ _ _ _ _ _ us hl => match us, hl with | [_], _ => rfl) s [v] rfl, fun base _ _ => ?_⟩
  have a0 := D_gcd (P := P) (w := w) (base := base) (c.fn0 X G 0 13) B
  have a1 := D_gcdl (P := P) (w := w) (base := base) (c.fn0 X G 1 14) B
  have a2 := D_ratio (P := P) (w := w) (base := base) (c.fn0 X G 2 15) B a0
  have a3 := D_ratiol (P := P) (w := w) (base := base) (c.fn0 X G 3 16) B a1
  have a4 := D_is_answers (P := P) (w := w) (base := base) (c.fn0 X G 4 17) B
  have a5 := D_kinds_of (P := P) (w := w) (base := base) (c.fn0 X G 5 18) B
  have a6 := D_view_of (P := P) (w := w) (base := base) (c.fn0 X G 6 19)
  have a7 := D_is_weight (P := P) (w := w) (base := base) (c.fn0 X G 7 20) B
  have a8 := D_isBag (P := P) (w := w) (base := base) (c.fn0 X G 8 21) B a5
  have a9 := D_check (P := P) (w := w) (base := base) (c.fn0 X G 9 22) B (He.int_ok X G (c.fact 23)) a7 a8
  have a10 := D_gath (P := P) (w := w) (base := base) (c.fn0 X G 10 24) B a0
  have a11 := D_Source (P := P) (w := w) (base := base) (c.mt0 11 25) B cCnS a4 a9 a10
  have a12 := D_vw (P := P) (w := w) (base := base) (c.fn0 X G 12 35) B cCnS a6
  have a13 := D_worth (P := P) (w := w) (base := base) (c.fn0 X G 13 36) B cCnS a6 a12 a2
  have a14 := D_cell (P := P) (w := w) (base := base) (c.fn0 X G 14 37) B
  have a15 := D_digits (P := P) (w := w) (base := base) (c.fn0 X G 15 38) B
  have a16 := D_whole (P := P) (w := w) (base := base) (c.fn0 X G 16 39) B
  have a17 := D_isratio (P := P) (w := w) (base := base) (c.fn0 X G 17 40) B a16 a1
  have a18 := D_isless (P := P) (w := w) (base := base) (c.fn0 X G 18 41)
  have a19 := D_added (P := P) (w := w) (base := base) (c.fn0 X G 19 42) a3
  have a20 := D_timed (P := P) (w := w) (base := base) (c.fn0 X G 20 43) a3
  have a21 := D_orders (P := P) (w := w) (base := base) (c.fn0 X G 21 44) B
  have a22 := D_allB (P := P) (w := w) (base := base) (c.fn0 X G 22 45) B
  have a23 := D_lkinds (P := P) (w := w) (base := base) (c.fn0 X G 23 46) B
  have a24 := D_exB (P := P) (w := w) (base := base) (c.fn0 X G 24 47) B a23 a22
  have a25 := D_shape (P := P) (w := w) (base := base) (c.fn0 X G 25 48) B a14 a15
  have a26 := D_byO (P := P) (w := w) (base := base) (c.fn0 X G 26 49) B a21 a3 a19
  have a27 := D_lsrc (P := P) (w := w) (base := base) (c.fn0 X G 27 50) B a14 a15 a23
  refine (D_law (P := P) (w := w) (base := base) B cCnS a25 a27 a11 a26 a24 a20 a13 a17 a18 a3 FL).imp fun vs H Q E ⟨a, ns, ev, hs, _, q⟩ => ⟨ns, H, Same.refl _, by rw [ev]; exact .cons ⟨a, rfl, hs⟩ .nil, trivial, fun v F' H' g r => by rw [show v = _ from r]; exact q H'⟩
end Q
open PySem PySem.W PySem.Calls PyProof.Rows
set_option maxHeartbeats 0
theorem PySem.Challenge.cw_oneleftout_k73_worths_holds : PySem.Challenge.rw_oneleftout_k73_worths.Holds := by
  w_on; o_law
  refine HandSHeadRun.head_any (r := OpenLaw.row PySem.Challenge.rw_oneleftout_k73_worths) (q := view (OpenLaw.row PySem.Challenge.rw_oneleftout_k73_worths).prog [42]) (H := Q.hkk) (ob := Q.obb) (M := 3000) (loose := Q.loos) (d := HandSHeadRun.topDef (OpenLaw.row PySem.Challenge.rw_oneleftout_k73_worths).prog 42) (kwd := []) Q.obb_eq
    (by kernel_rfl) (fun s => by kernel_rfl) Q.run (by kernel_rfl) (by kernel_rfl) (by kernel_rfl) (by rfl) (by first | assumption | decide +kernel) (by decide +kernel) ⟨rfl, rfl, rfl, rfl, rfl, by decide +kernel⟩ ?hw ?hc
  case hw => w_witness2
  case hc =>
    refine L2.walk_ofE (l := PySem.Challenge.rw_oneleftout_k73_worths) (n := 63) (k := 9) (x := "script") (CX := L2.CX0) rfl (by decide) (by kernel_rfl) ⟨rfl, by decide, by decide⟩ ?F (fun _ _ _ _ z => z)
    intro w mg fa h Y G hmg0
    obtain ⟨K, KX, c⟩ := Y
    have hmg : mg ("law" : PySem.Str) = some (.ref fa) := by
      have e : (HandSHeadRun.topDef (OpenLaw.row PySem.Challenge.rw_oneleftout_k73_worths).prog 42).name = ("law" : PySem.Str) := by kernel_rfl
      rw [← e]
      exact hmg0
    obtain ⟨fd, hb, hF⟩ := Q.facts (P := (PySem.Challenge.rw_oneleftout_k73_worths).prog) (w := w) KX G hmg c
    exact ⟨K, fd, Q.spLaw K, KX, hb, fun H a ns hl _ hS => ⟨a, ns, rfl, hS, hl, fun _ => rfl⟩, hF⟩
