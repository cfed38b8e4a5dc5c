import PyProof.Rows.All
import Wide.All
import OpenK.AllK
import Wide.FinOn
import HandS.ForMost
import HandS.TupAny
import HandS.Walk
import HandS.Conv
import HandS.SortInts
import HandS.Defaults
import HandS.Deep
import HandS.OwnEq
import KE.KFmtOwn
import KE.KStateDown
import HandS.More
import HandS.WordsExc
import HandS.Head0
import HandS.Head1
import HandS.Head2
import HandS.HeadEnd
import HandS.HeadHook1
import HandS.HeadHook2
import HandS.IsInst
import PySem.Challenge.RW_oneleftout_k82_pushing
set_option Elab.async false
set_option linter.all false
set_option maxRecDepth 100000
set_option maxHeartbeats 4000000
/-! Zed: a layer over HandS: values as plain data, frozen and owned objects, states as lists of slots. -/
namespace Z
open PySem PySem.Spec PyProof.Rows L2

abbrev Frag := PySem.W.Frag
abbrev St := L2.St

/-! ### growth of the heap: F the frozen part of H -/
structure Gr (F H F' H' : Hp) : Prop where
  hh : Same H H'
  ff : Same F F'
  sub : Same F' H'
  new : ∀ a o, F' a = some o → F a = some o ∨ H a = none

theorem Gr.refl {F H : Hp} (s : Same F H) : Gr F H F H := ⟨Same.refl _, Same.refl _, s, fun _ _ h => .inl h⟩
theorem none_of_same {H H' : Hp} (s : Same H H') {a : Addr} (h : H' a = none) : H a = none := s.free h
theorem Gr.trans {F H F1 H1 F2 H2 : Hp} (a : Gr F H F1 H1) (b : Gr F1 H1 F2 H2) : Gr F H F2 H2 :=
  ⟨a.hh.trans b.hh, a.ff.trans b.ff, b.sub, fun p o h => by
    rcases b.new p o h with h | h
    · exact a.new p o h
    · exact .inr (none_of_same a.hh h)⟩
theorem same_upd {H : Hp} {p : Addr} {o : HO} (h : H p = none) : Same H (upd H p o) := fun b x e => by
  rw [upd_ne (ne_of_none e h)]
  exact e
theorem same_upd2 {F H : Hp} {p : Addr} {o : HO} (s : Same F H) (h : F p = none) : Same F (upd H p o) := fun b x e => by
  rw [upd_ne (ne_of_none e h)]
  exact s _ _ e
theorem same_both {F H : Hp} {p : Addr} {o : HO} (s : Same F H) : Same (upd F p o) (upd H p o) := fun b x e => by
  by_cases hb : b = p
  · subst hb
    rw [upd_same] at e ⊢
    exact e
  · rw [upd_ne hb] at e ⊢
    exact s _ _ e
/-- a new object, frozen at once -/
theorem Gr.put {F H : Hp} {p : Addr} {o : HO} (s : Same F H) (hp : H p = none) : Gr F H (upd F p o) (upd H p o) :=
  ⟨same_upd hp, same_upd (none_of_same s hp), same_both s, fun a u h => by
    by_cases ha : a = p
    · subst ha
      exact .inr hp
    · rw [upd_ne ha] at h
      exact .inl h⟩
/-- a new object that stays open -/
theorem Gr.hold {F H : Hp} {p : Addr} {o : HO} (s : Same F H) (hp : H p = none) : Gr F H F (upd H p o) :=
  ⟨same_upd hp, Same.refl _, same_upd2 s (none_of_same s hp), fun a u h => .inl h⟩
theorem Gr.none {F H F' H' : Hp} (g : Gr F H F' H') {l : Addr} {o : HO} (hF : F l = none) (hH : H l = some o) : F' l = none := by
  cases e : F' l with
  | none => rfl
  | some u =>
    rcases g.new l u e with h | h
    · rw [hF] at h
      cases h
    · rw [hH] at h
      cases h

/-! ### data -/
structure Rp (α : Type) where
  r : Frag → Hp → V → α → Prop
  mono : ∀ {K F F' v x}, Same F F' → r K F v x → r K F' v x

theorem SqT.same {K : Frag} {H H' : Hp} {a : Addr} {xs : List V} (e : Same H H') (h : SqT K H a xs) : SqT K H' a xs :=
  h.elim (fun h => .inl (h.elim (fun h => .inl (e _ _ h)) fun ⟨o, h⟩ => .inr ⟨o, e _ _ h⟩)) fun h => .inr h

abbrev PL {α : Type} (c : Rp α) (K : Frag) (F : Hp) (vs : List V) (xs : List α) : Prop := Paired (c.r K F) vs xs
theorem PL.mono {α : Type} {c : Rp α} {K : Frag} {F F' : Hp} {vs : List V} {xs : List α} (s : Same F F') (h : PL c K F vs xs) : PL c K F' vs xs :=
  Paired.mapP h fun _ _ => c.mono s
theorem Paired.get {α β : Type} {R : α → β → Prop} : ∀ {xs : List α} {ys : List β} {i : Nat} {y : β}, Paired R xs ys → ys[i]? = some y → ∃ x, xs[i]? = some x ∧ R x y
  | _, _, _, _, .nil, e => by simp at e
  | _, _, 0, _, .cons r _, e => by simp at e; subst e; exact ⟨_, rfl, r⟩
  | _, _, i + 1, y, .cons _ t, e => by
    obtain ⟨u, h1, h2⟩ := Paired.get (i := i) (y := y) t (by simpa using e)
    exact ⟨u, by simpa using h1, h2⟩
theorem Paired.getL {α β : Type} {R : α → β → Prop} : ∀ {xs : List α} {ys : List β} {i : Nat} {x : α}, Paired R xs ys → xs[i]? = some x → ∃ y, ys[i]? = some y ∧ R x y
  | _, _, _, _, .nil, e => by simp at e
  | _, _, 0, _, .cons r _, e => by simp at e; subst e; exact ⟨_, rfl, r⟩
  | _, _, i + 1, y, .cons _ t, e => by
    obtain ⟨u, h1, h2⟩ := Paired.getL (i := i) (x := y) t (by simpa using e)
    exact ⟨u, by simpa using h1, h2⟩
theorem Paired.append {α β : Type} {R : α → β → Prop} : ∀ {xs xs' : List α} {ys ys' : List β}, Paired R xs ys → Paired R xs' ys' → Paired R (xs ++ xs') (ys ++ ys')
  | _, _, _, _, .nil, s => s
  | _, _, _, _, .cons r t, s => .cons r (Paired.append t s)
theorem Paired.set {α β : Type} {R : α → β → Prop} {x : α} {y : β} (r : R x y) : ∀ {xs : List α} {ys : List β} (i : Nat), Paired R xs ys → Paired R (xs.set i x) (ys.set i y)
  | _, _, _, .nil => .nil
  | _, _, 0, .cons _ t => .cons r t
  | _, _, i + 1, .cons q t => .cons q (Paired.set r i t)
theorem Paired.take {α β : Type} {R : α → β → Prop} : ∀ {xs : List α} {ys : List β} (n : Nat), Paired R xs ys → Paired R (xs.take n) (ys.take n)
  | _, _, 0, _ => .nil
  | _, _, _ + 1, .nil => .nil
  | _, _, n + 1, .cons r t => .cons r (Paired.take n t)
theorem Paired.drop {α β : Type} {R : α → β → Prop} : ∀ {xs : List α} {ys : List β} (n : Nat), Paired R xs ys → Paired R (xs.drop n) (ys.drop n)
  | _, _, 0, r => r
  | _, _, _ + 1, .nil => .nil
  | _, _, n + 1, .cons _ t => Paired.drop n t
theorem Paired.map_eq {α : Type} {f : α → V} {R : V → α → Prop} (h : ∀ v x, R v x → v = f x) : ∀ {vs : List V} {xs : List α}, Paired R vs xs → vs = xs.map f
  | _, _, .nil => rfl
  | _, _, .cons r t => by rw [h _ _ r, Paired.map_eq h t]; rfl
theorem Paired.of_map {α : Type} {f : α → V} {R : V → α → Prop} (h : ∀ x, R (f x) x) : ∀ xs : List α, Paired R (xs.map f) xs
  | [] => .nil
  | x :: xs => .cons (h x) (Paired.of_map h xs)

def tx (l : List Nat) : Str := ⟨l.toArray⟩
theorem tx_inj {a b : List Nat} (h : tx a = tx b) : a = b := by
  have e := congrArg (fun s : Str => s.cps.toList) h
  simpa [tx] using e
theorem tx_toList (a : List Nat) : (tx a).cps.toList = a := by simp [tx]
theorem tx_of (s : Str) : tx s.cps.toList = s := by cases s; simp [tx]
theorem tx_len (a : List Nat) : (tx a).length = a.length := by simp [tx, Str.length]

def rInt : Rp Int := ⟨fun _ _ v x => v = .int x, fun _ h => h⟩
def rBool : Rp Bool := ⟨fun _ _ v x => v = .bl x, fun _ h => h⟩
def rNon : Rp Unit := ⟨fun _ _ v _ => v = .non, fun _ h => h⟩
def rTx : Rp (List Nat) := ⟨fun _ _ v x => v = .str (tx x), fun _ h => h⟩
/-- a tuple of alike items -/
def rT {α : Type} (c : Rp α) : Rp (List α) :=
  ⟨fun K F v xs => ∃ a vs, v = .ref a ∧ SqT K F a vs ∧ PL c K F vs xs, fun s ⟨a, vs, e, h, p⟩ => ⟨a, vs, e, SqT.same s h, PL.mono s p⟩⟩
/-- a frozen list of alike items -/
def rL {α : Type} (c : Rp α) : Rp (List α) :=
  ⟨fun K F v xs => ∃ a vs, v = .ref a ∧ F a = some (.lst vs) ∧ PL c K F vs xs, fun s ⟨a, vs, e, h, p⟩ => ⟨a, vs, e, s _ _ h, PL.mono s p⟩⟩
/-- the script: a list of ints, read only -/
def rScr : Rp (List Int) :=
  ⟨fun K F v xs => ∃ a, v = .ref a ∧ SqL K F a (xs.map V.int), fun s ⟨a, e, h⟩ => ⟨a, e, s.seq h⟩⟩
/-- tuples and lists of fixed form -/
def r2 {α β : Type} (c : Rp α) (d : Rp β) : Rp (α × β) :=
  ⟨fun K F v x => ∃ a v1 v2, v = .ref a ∧ SqT K F a [v1, v2] ∧ c.r K F v1 x.1 ∧ d.r K F v2 x.2, fun s ⟨a, v1, v2, e, h, p, q⟩ => ⟨a, v1, v2, e, SqT.same s h, c.mono s p, d.mono s q⟩⟩
def r3 {α β γ : Type} (c : Rp α) (d : Rp β) (e : Rp γ) : Rp (α × β × γ) :=
  ⟨fun K F v x => ∃ a v1 v2 v3, v = .ref a ∧ SqT K F a [v1, v2, v3] ∧ c.r K F v1 x.1 ∧ d.r K F v2 x.2.1 ∧ e.r K F v3 x.2.2,
    fun s ⟨a, v1, v2, v3, z, h, p, q, t⟩ => ⟨a, v1, v2, v3, z, SqT.same s h, c.mono s p, d.mono s q, e.mono s t⟩⟩
def rL2 {α β : Type} (c : Rp α) (d : Rp β) : Rp (α × β) :=
  ⟨fun K F v x => ∃ a v1 v2, v = .ref a ∧ F a = some (.lst [v1, v2]) ∧ c.r K F v1 x.1 ∧ d.r K F v2 x.2, fun s ⟨a, v1, v2, e, h, p, q⟩ => ⟨a, v1, v2, e, s _ _ h, c.mono s p, d.mono s q⟩⟩
def rL3 {α β γ : Type} (c : Rp α) (d : Rp β) (e : Rp γ) : Rp (α × β × γ) :=
  ⟨fun K F v x => ∃ a v1 v2 v3, v = .ref a ∧ F a = some (.lst [v1, v2, v3]) ∧ c.r K F v1 x.1 ∧ d.r K F v2 x.2.1 ∧ e.r K F v3 x.2.2,
    fun s ⟨a, v1, v2, v3, z, h, p, q, t⟩ => ⟨a, v1, v2, v3, z, s _ _ h, c.mono s p, d.mono s q, e.mono s t⟩⟩

/-! ### instances: fields by name -/
structure Fd : Type 1 where
  α : Type
  c : Rp α
  x : α
def fd {α : Type} (c : Rp α) (x : α) : Fd := ⟨α, c, x⟩
inductive FOk (K : Frag) (F : Hp) : List (Str × V) → List (Str × Fd) → Prop
  | nil : FOk K F [] []
  | cons {n : Str} {v : V} {f : Fd} {vs : List (Str × V)} {fs : List (Str × Fd)} : f.c.r K F v f.x → FOk K F vs fs → FOk K F ((n, v) :: vs) ((n, f) :: fs)
theorem FOk.mono {K : Frag} {F F' : Hp} (s : Same F F') : ∀ {vs : List (Str × V)} {fs : List (Str × Fd)}, FOk K F vs fs → FOk K F' vs fs
  | _, _, .nil => .nil
  | _, _, .cons (f := f) r t => .cons (f.c.mono s r) (t.mono s)
theorem FOk.look {K : Frag} {F : Hp} {n : Str} : ∀ {vs : List (Str × V)} {fs : List (Str × Fd)} {f : Fd}, FOk K F vs fs → fs.lookup n = some f → ∃ v, vs.lookup n = some v ∧ f.c.r K F v f.x
  | _, _, _, .nil, h => by cases h
  | _, _, f, .cons (n := m) (v := v) (f := g) (vs := vs) (fs := fs) r t, h => by
    simp only [List.lookup] at h ⊢
    cases e : n == m with
    | true =>
      rw [e] at h
      cases h
      exact ⟨v, rfl, r⟩
    | false =>
      rw [e] at h
      exact t.look h
theorem FOk.none {K : Frag} {F : Hp} {n : Str} : ∀ {vs : List (Str × V)} {fs : List (Str × Fd)}, FOk K F vs fs → fs.lookup n = none → vs.lookup n = none
  | _, _, .nil, h => rfl
  | _, _, .cons (n := m) (v := v) (f := g) (vs := vs) (fs := fs) r t, h => by
    simp only [List.lookup] at h ⊢
    cases e : n == m with
    | true =>
      rw [e] at h
      cases h
    | false =>
      rw [e] at h
      exact t.none h
theorem FOk.len {K : Frag} {F : Hp} : ∀ {vs : List (Str × V)} {fs : List (Str × Fd)}, FOk K F vs fs → vs.length = fs.length
  | _, _, .nil => rfl
  | _, _, .cons _ t => congrArg Nat.succ t.len
/-- a new field is put behind the others -/
theorem FOk.put {K : Frag} {F : Hp} {n : Str} {v : V} {g : Fd} (r : g.c.r K F v g.x) : ∀ {vs : List (Str × V)} {fs : List (Str × Fd)}, FOk K F vs fs → fs.lookup n = Option.none → FOk K F (putF n v vs) (fs ++ [(n, g)])
  | _, _, .nil, h => .cons r .nil
  | _, _, .cons (n := m) (v := u) (f := f) (vs := vs) (fs := fs) q t, h => by
    simp only [List.lookup] at h
    cases e : n == m with
    | true =>
      rw [e] at h
      cases h
    | false =>
      rw [e] at h
      have ne : ¬ m = n := fun z => by rw [z] at e; simp at e
      show FOk K F (if m = n then (m, v) :: vs else (m, u) :: putF n v vs) ((m, f) :: (fs ++ [(n, g)]))
      rw [if_neg ne]
      exact .cons q (t.put r h)
/-- a frozen instance of the class at C -/
def rIns {α : Type} (C : Addr) (fl : α → List (Str × Fd)) : Rp α :=
  ⟨fun K F v x => ∃ a dx vs, v = .ref a ∧ F a = some (.ins C dx vs) ∧ FOk K F vs (fl x), fun s ⟨a, dx, vs, e, h, p⟩ => ⟨a, dx, vs, e, s _ _ h, p.mono s⟩⟩

/-! ### slots -/
inductive Sl : Type 1 where
  | un
  | v {α : Type} (c : Rp α) (x : α)
  | ol {α : Type} (c : Rp α) (xs : List α)
  | od {α : Type} (c : Rp α) (kvs : List (Key × α))
  | oc (x C : Addr) (fs : List (Str × Fd))

def celO (K : Frag) (F : Hp) : Sl → HO → Prop
  | .ol c xs, o => ∃ vs, o = .lst vs ∧ PL c K F vs xs
  | .od c kvs, o => ∃ ps : List (Key × V), o = .dK ps ∧ Paired (fun (p : Key × V) q => p.1 = q.1 ∧ c.r K F p.2 q.2) ps kvs
  | .oc _ C fs, o => ∃ dx vs, o = .ins C dx vs ∧ FOk K F vs fs
  | _, _ => False
def Sl.cel : Sl → Bool
  | .ol _ _ => true
  | .od _ _ => true
  | .oc _ _ _ => true
  | _ => false
/-- an instance's own address -/
def Sl.pin : Sl → Addr → Prop
  | .oc x _ _, l => l = x
  | _, _ => True
theorem celO.mono {K : Frag} {F F' : Hp} (s : Same F F') : ∀ {t : Sl} {o : HO}, celO K F t o → celO K F' t o
  | .ol c xs, o, ⟨vs, e, p⟩ => ⟨vs, e, PL.mono s p⟩
  | .od c kvs, o, ⟨ps, e, p⟩ => ⟨ps, e, Paired.mapP p fun _ _ h => ⟨h.1, c.mono s h.2⟩⟩
  | .oc _ C fs, o, ⟨dx, vs, e, p⟩ => ⟨dx, vs, e, p.mono s⟩
  | .un, _, h => h.elim
  | .v _ _, _, h => h.elim
theorem celO.is {K : Frag} {F : Hp} : ∀ {t : Sl} {o : HO}, celO K F t o → t.cel = true
  | .ol _ _, _, _ => rfl
  | .od _ _, _, _ => rfl
  | .oc _ _ _, _, _ => rfl
  | .un, _, h => h.elim
  | .v _ _, _, h => h.elim

/-- the cell at l -/
structure CelAt (K : Frag) (H0 F H : Hp) (s : Sl) (l : Addr) : Prop where
  f : F l = none
  h0 : H0 l = none
  o : ∃ ho, H l = some ho ∧ celO K F s ho
  pin : s.pin l
def slOk (K : Frag) (H0 F H : Hp) (o : Option V) : Sl → Prop
  | .un => True
  | .v c x => ∃ u, o = some u ∧ c.r K F u x
  | s => ∃ l, o = some (.ref l) ∧ CelAt K H0 F H s l
theorem slOk.cell {K : Frag} {H0 F H : Hp} {o : Option V} : ∀ {s : Sl}, s.cel = true → slOk K H0 F H o s → ∃ l, o = some (.ref l) ∧ CelAt K H0 F H s l
  | .ol _ _, _, h => h
  | .od _ _, _, h => h
  | .oc _ _ _, _, h => h
theorem slOk.of_cell {K : Frag} {H0 F H : Hp} {o : Option V} {l : Addr} : ∀ {s : Sl}, s.cel = true → o = some (.ref l) → CelAt K H0 F H s l → slOk K H0 F H o s
  | .ol _ _, _, e, h => ⟨l, e, h⟩
  | .od _ _, _, e, h => ⟨l, e, h⟩
  | .oc _ _ _, _, e, h => ⟨l, e, h⟩

structure Ok (K : Frag) (F0 H0 F H : Hp) (σ : St) (Γ : List Sl) : Prop where
  gr : Gr F0 H0 F H
  len : σ.length = Γ.length
  sl : ∀ (i : Nat) (s : Sl), Γ[i]? = some s → ∃ o, σ[i]? = some o ∧ slOk K H0 F H o s
  dis : ∀ (i j : Nat) (s t : Sl) (l : Addr), i ≠ j → Γ[i]? = some s → Γ[j]? = some t → s.cel = true → t.cel = true → σ[i]? = some (some (.ref l)) → σ[j]? = some (some (.ref l)) → False

theorem CelAt.grow {K : Frag} {H0 F H F' H' : Hp} {s : Sl} {l : Addr} (c : CelAt K H0 F H s l) (g : Gr F H F' H') : CelAt K H0 F' H' s l := by
  obtain ⟨ho, h, q⟩ := c.o
  exact ⟨g.none c.f h, c.h0, ⟨ho, g.hh _ _ h, q.mono g.ff⟩, c.pin⟩
theorem slOk.grow {K : Frag} {H0 F H F' H' : Hp} {o : Option V} (g : Gr F H F' H') : ∀ {s : Sl}, slOk K H0 F H o s → slOk K H0 F' H' o s
  | .un, _ => trivial
  | .v c x, ⟨u, e, r⟩ => ⟨u, e, c.mono g.ff r⟩
  | .ol _ _, ⟨l, e, c⟩ => ⟨l, e, c.grow g⟩
  | .od _ _, ⟨l, e, c⟩ => ⟨l, e, c.grow g⟩
  | .oc _ _ _, ⟨l, e, c⟩ => ⟨l, e, c.grow g⟩

section
variable {K : Frag} {F0 H0 F H F' H' : Hp} {σ : St} {Γ : List Sl}
theorem Ok.grow (k : Ok K F0 H0 F H σ Γ) (g : Gr F H F' H') : Ok K F0 H0 F' H' σ Γ :=
  ⟨k.gr.trans g, k.len, fun i s h => let ⟨o, e, q⟩ := k.sl i s h; ⟨o, e, q.grow g⟩, k.dis⟩
theorem Ok.sub (k : Ok K F0 H0 F H σ Γ) : Same F H := k.gr.sub
theorem Ok.val (k : Ok K F0 H0 F H σ Γ) {i : Nat} {α : Type} {c : Rp α} {x : α} (h : Γ[i]? = some (.v c x)) : ∃ u, σ[i]? = some (some u) ∧ c.r K F u x := by
  obtain ⟨o, e, u, e2, r⟩ := k.sl i _ h
  subst e2
  exact ⟨u, e, r⟩
theorem Ok.cell (k : Ok K F0 H0 F H σ Γ) {i : Nat} {s : Sl} (h : Γ[i]? = some s) (hc : s.cel = true) : ∃ l, σ[i]? = some (some (.ref l)) ∧ CelAt K H0 F H s l := by
  obtain ⟨o, e, q⟩ := k.sl i _ h
  obtain ⟨l, e2, q'⟩ := q.cell hc
  subst e2
  exact ⟨l, e, q'⟩
theorem set_get {α : Type _} {l : List α} {i j : Nat} {a b : α} (h : (l.set i a)[j]? = some b) : (i = j ∧ b = a ∧ j < l.length) ∨ (i ≠ j ∧ l[j]? = some b) := by
  by_cases e : i = j
  · subst e
    by_cases hi : i < l.length
    · rw [List.getElem?_set_self hi] at h
      exact .inl ⟨rfl, (Option.some.inj h).symm, hi⟩
    · rw [List.getElem?_eq_none (by simpa using hi)] at h
      cases h
  · rw [List.getElem?_set_ne e] at h
    exact .inr ⟨e, h⟩
/-- a slot is forgotten or gets a value -/
theorem Ok.setAny (k : Ok K F0 H0 F H σ Γ) {i : Nat} {s : Sl} {o : Option V} (hs : s.cel = false) (q : slOk K H0 F H o s) : Ok K F0 H0 F H (σ.set i o) (Γ.set i s) := by
  refine ⟨k.gr, by rw [List.length_set, List.length_set, k.len], fun j t h => ?_, fun a b s' t' l hab ha hb ca cb ea eb => ?_⟩
  · rcases set_get h with ⟨rfl, rfl, hl⟩ | ⟨hne, h⟩
    · exact ⟨o, by rw [List.getElem?_set_self (by rw [k.len]; exact hl)], q⟩
    · obtain ⟨o', e, q'⟩ := k.sl j t h
      exact ⟨o', by rw [List.getElem?_set_ne hne]; exact e, q'⟩
  · rcases set_get ha with ⟨rfl, rfl, _⟩ | ⟨na, ha⟩
    · rw [hs] at ca
      cases ca
    · rcases set_get hb with ⟨rfl, rfl, _⟩ | ⟨nb, hb⟩
      · rw [hs] at cb
        cases cb
      · rw [List.getElem?_set_ne na] at ea
        rw [List.getElem?_set_ne nb] at eb
        exact k.dis a b s' t' l hab ha hb ca cb ea eb
theorem Ok.setV (k : Ok K F0 H0 F H σ Γ) {i : Nat} {α : Type} {c : Rp α} {x : α} {u : V} (r : c.r K F u x) : Ok K F0 H0 F H (σ.set i (some u)) (Γ.set i (.v c x)) :=
  k.setAny rfl ⟨u, rfl, r⟩
/-- a new cell is put into a slot; behind the growth from Ok's heap -/
theorem Ok.setC (k : Ok K F0 H0 F H σ Γ) (g : Gr F H F' H') {i : Nat} {s : Sl} {l : Addr} {ho : HO} (hl : H l = none) (hF : F' l = none) (hH : H' l = some ho) (q : celO K F' s ho) (hp : s.pin l) :
    Ok K F0 H0 F' H' (σ.set i (some (.ref l))) (Γ.set i s) := by
  have k' := k.grow g
  have hcel := q.is
  have ca : CelAt K H0 F' H' s l := ⟨hF, none_of_same k.gr.hh hl, ⟨ho, hH, q⟩, hp⟩
  have old : ∀ (j : Nat) (t : Sl), Γ[j]? = some t → t.cel = true → σ[j]? = some (some (.ref l)) → False := fun j t h c e => by
    obtain ⟨l', e', c'⟩ := k.cell h c
    rw [e] at e'
    cases e'
    obtain ⟨ho', h', _⟩ := c'.o
    rw [hl] at h'
    cases h'
  refine ⟨k'.gr, by rw [List.length_set, List.length_set, k.len], fun j t h => ?_, fun a b s' t' l' hab ha hb ca' cb ea eb => ?_⟩
  · rcases set_get h with ⟨rfl, rfl, hl'⟩ | ⟨hne, h⟩
    · exact ⟨_, by rw [List.getElem?_set_self (by rw [k.len]; exact hl')], slOk.of_cell hcel rfl ca⟩
    · obtain ⟨o', e, q'⟩ := k'.sl j t h
      exact ⟨o', by rw [List.getElem?_set_ne hne]; exact e, q'⟩
  · rcases set_get ha with ⟨za, ya, hla⟩ | ⟨na, ga⟩
    · rcases set_get hb with ⟨zb, yb, _⟩ | ⟨nb, gb⟩
      · exact hab (za.symm.trans zb)
      · rw [← za, List.getElem?_set_self (by rw [k.len, za]; exact hla)] at ea
        rw [List.getElem?_set_ne nb] at eb
        cases ea
        exact old b t' gb cb eb
    · rcases set_get hb with ⟨zb, yb, hlb⟩ | ⟨nb, gb⟩
      · rw [← zb, List.getElem?_set_self (by rw [k.len, zb]; exact hlb)] at eb
        rw [List.getElem?_set_ne na] at ea
        cases eb
        exact old a s' ga ca' ea
      · rw [List.getElem?_set_ne na] at ea
        rw [List.getElem?_set_ne nb] at eb
        exact k.dis a b s' t' l' hab ga gb ca' cb ea eb
/-- a cell is written -/
theorem Ok.write (k : Ok K F0 H0 F H σ Γ) {i : Nat} {s s' : Sl} {l : Addr} {ho : HO} (h : Γ[i]? = some s) (hc : s.cel = true) (hl : σ[i]? = some (some (.ref l))) (q : celO K F s' ho) (hp : s'.pin l := by trivial) :
    Ok K F0 H0 F (upd H l ho) σ (Γ.set i s') := by
  obtain ⟨l', e', c⟩ := k.cell h hc
  rw [hl] at e'
  cases e'
  have hcel := q.is
  refine ⟨⟨same_upd2 k.gr.hh c.h0, k.gr.ff, same_upd2 k.gr.sub c.f, k.gr.new⟩, by rw [List.length_set, k.len], fun j t hj => ?_, fun a b s1 t1 l' hab ha hb ca cb ea eb => ?_⟩
  · rcases set_get hj with ⟨rfl, rfl, _⟩ | ⟨hne, hj⟩
    · exact ⟨_, hl, slOk.of_cell hcel rfl ⟨c.f, c.h0, ⟨ho, upd_same, q⟩, hp⟩⟩
    · obtain ⟨o', e, q'⟩ := k.sl j t hj
      refine ⟨o', e, ?_⟩
      by_cases ct : t.cel = true
      · obtain ⟨l2, e2, c2⟩ := q'.cell ct
        obtain ⟨ho2, h2, q2⟩ := c2.o
        have nl : l2 ≠ l := fun z => by
          subst z
          exact k.dis i j s t l2 hne h hj hc ct hl (e2 ▸ e)
        exact slOk.of_cell ct e2 ⟨c2.f, c2.h0, ⟨ho2, by rw [upd_ne nl]; exact h2, q2⟩, c2.pin⟩
      · cases t with
        | un => trivial
        | v c x => exact q'
        | ol _ _ => exact absurd rfl ct
        | od _ _ => exact absurd rfl ct
        | oc _ _ _ => exact absurd rfl ct
  · have fix : ∀ (j : Nat) (t : Sl), (Γ.set i s')[j]? = some t → t.cel = true → ∃ t', Γ[j]? = some t' ∧ t'.cel = true := fun j t hj ct => by
      rcases set_get hj with ⟨rfl, _, _⟩ | ⟨_, hj⟩
      · exact ⟨s, h, hc⟩
      · exact ⟨t, hj, ct⟩
    obtain ⟨s2, hs2, cs2⟩ := fix a s1 ha ca
    obtain ⟨t2, ht2, ct2⟩ := fix b t1 hb cb
    exact k.dis a b s2 t2 l' hab hs2 ht2 cs2 ct2 ea eb
/-- a cell is frozen: from now on it is a value -/
theorem Ok.freeze (k : Ok K F0 H0 F H σ Γ) {i : Nat} {s : Sl} {l : Addr} {ho : HO} {α : Type} {c : Rp α} {x : α} (h : Γ[i]? = some s) (hc : s.cel = true) (hl : σ[i]? = some (some (.ref l))) (hH : H l = some ho)
    (q : c.r K (upd F l ho) (.ref l) x) : Ok K F0 H0 (upd F l ho) H σ (Γ.set i (.v c x)) := by
  obtain ⟨l', e', ca⟩ := k.cell h hc
  rw [hl] at e'
  cases e'
  have sf : Same F (upd F l ho) := same_upd ca.f
  refine ⟨⟨k.gr.hh, k.gr.ff.trans sf, fun b o e => ?_, fun b o e => ?_⟩, by rw [List.length_set, k.len], fun j t hj => ?_, fun a b s1 t1 l' hab ha hb ca cb ea eb => ?_⟩
  · by_cases hb : b = l
    · subst hb
      rw [upd_same] at e
      cases e
      exact hH
    · rw [upd_ne hb] at e
      exact k.gr.sub _ _ e
  · by_cases hb : b = l
    · subst hb
      exact .inr ca.h0
    · rw [upd_ne hb] at e
      exact k.gr.new _ _ e
  · rcases set_get hj with ⟨rfl, rfl, _⟩ | ⟨hne, hj⟩
    · exact ⟨_, hl, _, rfl, q⟩
    · obtain ⟨o', e, q'⟩ := k.sl j t hj
      refine ⟨o', e, ?_⟩
      by_cases ct : t.cel = true
      · obtain ⟨l2, e2, c2⟩ := q'.cell ct
        obtain ⟨ho2, h2, q2⟩ := c2.o
        have nl : l2 ≠ l := fun z => by
          subst z
          exact k.dis i j s t l2 hne h hj hc ct hl (e2 ▸ e)
        exact slOk.of_cell ct e2 ⟨by rw [upd_ne nl]; exact c2.f, c2.h0, ⟨ho2, h2, q2.mono sf⟩, c2.pin⟩
      · cases t with
        | un => trivial
        | v c x =>
          obtain ⟨u, eu, r⟩ := q'
          exact ⟨u, eu, c.mono sf r⟩
        | ol _ _ => exact absurd rfl ct
        | od _ _ => exact absurd rfl ct
        | oc _ _ _ => exact absurd rfl ct
  · have fix : ∀ (j : Nat) (t : Sl), (Γ.set i (Sl.v c x))[j]? = some t → t.cel = true → Γ[j]? = some t := fun j t hj ct => by
      rcases set_get hj with ⟨rfl, rfl, _⟩ | ⟨_, hj⟩
      · cases ct
      · exact hj
    exact k.dis a b s1 t1 l' hab (fix a s1 ha ca) (fix b t1 hb cb) ca cb ea eb
end
/-- Γ' says less than Γ -/
def Wk : List Sl → List Sl → Prop
  | [], [] => True
  | a :: Γ, b :: Γ' => (b = .un ∨ a = b) ∧ Wk Γ Γ'
  | _, _ => False
theorem Wk.refl : ∀ Γ : List Sl, Wk Γ Γ
  | [] => trivial
  | _ :: Γ => ⟨.inr rfl, Wk.refl Γ⟩
theorem Wk.len : ∀ {Γ Γ' : List Sl}, Wk Γ Γ' → Γ.length = Γ'.length
  | [], [], _ => rfl
  | _ :: _, _ :: _, h => congrArg Nat.succ h.2.len
  | [], _ :: _, h => h.elim
  | _ :: _, [], h => h.elim
theorem Wk.get : ∀ {Γ Γ' : List Sl}, Wk Γ Γ' → ∀ {i : Nat} {s : Sl}, Γ'[i]? = some s → s = .un ∨ Γ[i]? = some s
  | [], [], _, i, s, h => by simp at h
  | a :: _, b :: _, w, 0, s, h => by
    have e : b = s := by simpa using h
    subst e
    rcases w.1 with e | e
    · exact .inl e
    · exact .inr (by simp [e])
  | a :: _, b :: _, w, i + 1, s, h => by
    have := w.2.get (i := i) (s := s) (by simpa using h)
    simpa using this
  | [], _ :: _, h, _, _, _ => h.elim
  | _ :: _, [], h, _, _, _ => h.elim
theorem Wk.set : ∀ {Γ Γ' : List Sl} {i : Nat} {s : Sl}, Wk Γ Γ' → Wk (Γ.set i s) (Γ'.set i s)
  | [], [], _, _, _ => trivial
  | _ :: _, _ :: _, 0, _, w => ⟨.inr rfl, w.2⟩
  | _ :: _, _ :: _, i + 1, _, w => ⟨w.1, w.2.set⟩
  | [], _ :: _, _, _, h => h.elim
  | _ :: _, [], _, _, h => h.elim
theorem Ok.weak {K : Frag} {F0 H0 F H : Hp} {σ : St} {Γ Γ' : List Sl} (k : Ok K F0 H0 F H σ Γ) (w : Wk Γ Γ') : Ok K F0 H0 F H σ Γ' := by
  refine ⟨k.gr, k.len.trans w.len, fun i s h => ?_, fun i j s t l hij hi hj ci cj => ?_⟩
  · rcases w.get h with e | h'
    · subst e
      have : i < σ.length := by rw [k.len, w.len]; exact (List.getElem?_eq_some_iff.mp h).1
      exact ⟨σ[i], List.getElem?_eq_getElem this, trivial⟩
    · exact k.sl i s h'
  · rcases w.get hi with e | hi'
    · subst e
      cases ci
    · rcases w.get hj with e | hj'
      · subst e
        cases cj
      · exact k.dis i j s t l hij hi' hj' ci cj
end Z

set_option Elab.async false
set_option linter.all false
set_option maxRecDepth 100000
set_option maxHeartbeats 4000000
/-! Zed: expressions. -/
namespace Z
open PySem PySem.Spec PyProof.Rows L2

theorem _root_.L2.PE.imp {X : Cx} {e : Expr} {t u : TE} (h : PE X e t) (i : ∀ σ H Q, u σ H Q → t σ H Q) : PE X e u := ⟨fun pins s σ H Q I q => h.run pins s σ H Q I (i σ H Q q)⟩
theorem _root_.L2.PT.imp {X : Cx} {e : Expr} {t u : TT} (h : PT X e t) (i : ∀ σ H Q, u σ H Q → t σ H Q) : PT X e u := ⟨fun pins s σ H Q I q => h.run pins s σ H Q I (i σ H Q q)⟩
theorem _root_.L2.PW.imp {X : Cx} {e : Expr} {t u : TT} (h : PW X e t) (i : ∀ σ H Q, u σ H Q → t σ H Q) : PW X e u := ⟨fun wh pins s σ H Q I q => h.run wh pins s σ H Q I (i σ H Q q)⟩
theorem _root_.L2.PA.imp {X : Cx} {es : List Expr} {t u : TA} (h : PA X es t) (i : ∀ σ H Q, u σ H Q → t σ H Q) : PA X es u := ⟨fun pos pins s σ H Q I q => h.run pos pins s σ H Q I (i σ H Q q)⟩
theorem _root_.L2.PK.imp {X : Cx} {es : List Keyword} {t u : TA} (h : PK X es t) (i : ∀ σ H Q, u σ H Q → t σ H Q) : PK X es u := ⟨fun pos pins s σ H Q I q => h.run pos pins s σ H Q I (i σ H Q q)⟩
theorem _root_.L2.PO.imp {X : Cx} {e : Option Expr} {t u : TO} (h : PO X e t) (i : ∀ σ H Q, u σ H Q → t σ H Q) : PO X e u := ⟨fun pins s σ H Q I q => h.run pins s σ H Q I (i σ H Q q)⟩
theorem _root_.L2.PI.imp {X : Cx} {tg e : Expr} {t u : TI} (h : PI X tg e t) (i : ∀ σ H Q, u σ H Q → t σ H Q) : PI X tg e u := ⟨fun pins s σ H Q I q => h.run pins s σ H Q I (i σ H Q q)⟩
theorem _root_.L2.PG.imp {X : Cx} {e : Expr} {t u : TG} (h : PG X e t) (i : ∀ v σ H Q, u v σ H Q → t v σ H Q) : PG X e u := ⟨fun pins s σ H v w Q I r q => h.run pins s σ H v w Q I r (i v σ H Q q)⟩
theorem _root_.L2.PS.imp {X : Cx} {e : Stmt} {t u : TS} (h : PS X e t) (i : ∀ D σ H, u D σ H → t D σ H) : PS X e u := ⟨fun pins s σ H D I q => h.run pins s σ H D I (i D σ H q)⟩
theorem _root_.L2.PSs.imp {X : Cx} {e : List Stmt} {t u : TS} (h : PSs X e t) (i : ∀ D σ H, u D σ H → t D σ H) : PSs X e u := ⟨fun pins s σ H D I q => h.run pins s σ H D I (i D σ H q)⟩
theorem _root_.L2.PTs.imp {X : Cx} {e : List Expr} {t u : TT} (h : PTs X e t) (i : ∀ σ H Q, u σ H Q → t σ H Q) : PTs X e u := ⟨fun pins s σ H Q I q => h.run pins s σ H Q I (i σ H Q q)⟩

/-! ### what an expression's value is -/
structure VP where
  p : Frag → Hp → Hp → V → Prop
  mono : ∀ {K F H F' H' v}, Gr F H F' H' → p K F H v → p K F' H' v
def vv {α : Type} (c : Rp α) (x : α) : VP := ⟨fun K F _ v => c.r K F v x, fun g h => c.mono g.ff h⟩
/-- a list that may be read -/
def vl {α : Type} (c : Rp α) (xs : List α) : VP :=
  ⟨fun K F H v => ∃ l vs, v = .ref l ∧ SqL K H l vs ∧ PL c K F vs xs, fun g ⟨l, vs, e, h, p⟩ => ⟨l, vs, e, g.hh.seq h, PL.mono g.ff p⟩⟩
def tE (K : Frag) (Γ : List Sl) (P : VP) : TE := fun σ H Q => ∃ F0 H0 F, Ok K F0 H0 F H σ Γ ∧ ∀ v F' H', Gr F H F' H' → P.p K F' H' v → Q v H'
abbrev Ez (X : Cx) (e : Expr) (Γ : List Sl) (P : VP) : Prop := PE X e (tE X.K Γ P)
abbrev EV (X : Cx) (e : Expr) (Γ : List Sl) {α : Type} (c : Rp α) (x : α) : Prop := Ez X e Γ (vv c x)
abbrev EL (X : Cx) (e : Expr) (Γ : List Sl) {α : Type} (c : Rp α) (xs : List α) : Prop := Ez X e Γ (vl c xs)
/-- a test -/
def tEB (K : Frag) (Γ : List Sl) (b : Bool) : TT := fun σ H Q => ∃ F0 H0 F, Ok K F0 H0 F H σ Γ ∧ ∀ F' H', Gr F H F' H' → Q b H'
abbrev EB (X : Cx) (e : Expr) (Γ : List Sl) (b : Bool) : Prop := PT X e (tEB X.K Γ b)
abbrev EW (X : Cx) (e : Expr) (Γ : List Sl) (b : Bool) : Prop := PW X e (tEB X.K Γ b)
/-- a new cell -/
def tEO (K : Frag) (Γ : List Sl) (s : Sl) : TE := fun σ H Q => ∃ F0 H0 F, Ok K F0 H0 F H σ Γ ∧ ∀ l ho F' H', Gr F H F' H' → F' l = none → H l = none → H' l = some ho → celO K F' s ho → Q (.ref l) H'
abbrev EO (X : Cx) (e : Expr) (Γ : List Sl) (s : Sl) : Prop := PE X e (tEO X.K Γ s)
/-- arguments -/
def tEA (K : Frag) (Γ : List Sl) (Ps : List VP) : TA := fun σ H Q => ∃ F0 H0 F, Ok K F0 H0 F H σ Γ ∧ ∀ vs F' H', Gr F H F' H' → Paired (fun v (P : VP) => P.p K F' H' v) vs Ps → Q vs H'
abbrev EA (X : Cx) (es : List Expr) (Γ : List Sl) (Ps : List VP) : Prop := PA X es (tEA X.K Γ Ps)

section
variable {X : Cx} {Γ : List Sl} {a b e : Expr} {es : List Expr} {pos : Pos} {α β γ : Type} {c : Rp α} {d : Rp β} {k : Rp γ} {x : α} {y : β} {P P' : VP}

theorem Ez.to (h : Ez X e Γ P) (i : ∀ {F H v}, Same F H → P.p X.K F H v → P'.p X.K F H v) : Ez X e Γ P' :=
  PE.imp h fun σ H Q ⟨F0, H0, F, ok, q⟩ => ⟨F0, H0, F, ok, fun v F' H' g p => q v F' H' g (i g.sub p)⟩
theorem EV.cast {x' : α} (h : EV X e Γ c x) (e' : x = x') : EV X e Γ c x' := e' ▸ h
theorem EB.cast {b b' : Bool} (h : EB X e Γ b) (e' : b = b') : EB X e Γ b' := e' ▸ h
theorem EL.of (h : EV X e Γ (rL c) xs) : EL X e Γ c xs := Ez.to h fun s ⟨l, vs, e, h, p⟩ => ⟨l, vs, e, SqL.of (s _ _ h), p⟩
theorem EL.scr (h : EV X e Γ rScr ns) : EL X e Γ rInt ns := Ez.to h fun s ⟨l, e, h⟩ => ⟨l, _, e, s.seq h, Paired.of_map (f := V.int) (fun _ => rfl) _⟩

/-! ### names -/
theorem ev (i : Nat) {n : Str} {p : Pos} (h : Γ[i]? = some (.v c x) := by rfl) (hN : X.N[i]? = some n := by rfl) (hv : Vis X.env.scope n := by first | exact Or.inl rfl | exact Or.inr (Or.inl rfl) | exact Or.inr (Or.inr rfl))
    (hd : (n == ("__debug__" : Str)) = false := by decide) (hcd : (n == ("__classdict__" : Str)) = false := by decide) : EV X (.Name n p) Γ c x :=
  PE.imp (pv i hN hv hd hcd) fun σ H Q ⟨F0, H0, F, ok, q⟩ => by
    obtain ⟨u, e, r⟩ := ok.val h
    exact ⟨u, e, q u F H (Gr.refl ok.sub) r⟩
theorem el (i : Nat) {n : Str} {p : Pos} {xs : List α} (h : Γ[i]? = some (.ol c xs) := by rfl) (hN : X.N[i]? = some n := by rfl) (hv : Vis X.env.scope n := by first | exact Or.inl rfl | exact Or.inr (Or.inl rfl) | exact Or.inr (Or.inr rfl))
    (hd : (n == ("__debug__" : Str)) = false := by decide) (hcd : (n == ("__classdict__" : Str)) = false := by decide) : EL X (.Name n p) Γ c xs :=
  PE.imp (pv i hN hv hd hcd) fun σ H Q ⟨F0, H0, F, ok, q⟩ => by
    obtain ⟨l, e, ca⟩ := ok.cell h rfl
    obtain ⟨ho, hl, vs, eh, p⟩ := ca.o
    subst eh
    exact ⟨_, e, q _ F H (Gr.refl ok.sub) ⟨l, vs, rfl, SqL.of hl, p⟩⟩
theorem ev_c {v : V} (h : PE X e (tC v)) (r : ∀ F, c.r X.K F v x) : EV X e Γ c x :=
  PE.imp h fun σ H Q ⟨F0, H0, F, ok, q⟩ => q v F H (Gr.refl ok.sub) (r F)
theorem ev_int {i : Int} {j p} : EV X (.Constant (.int i) j p) Γ rInt i := ev_c pe_int fun _ => rfl
theorem ev_bl {i : Bool} {j p} : EV X (.Constant (.bool i) j p) Γ rBool i := ev_c pe_bl fun _ => rfl
theorem ev_non {j p} : EV X (.Constant .none j p) Γ rNon () := ev_c pe_non fun _ => rfl
theorem ev_str {s : Str} {j p} (l : List Nat) (h : s = tx l := by decide +kernel) : EV X (.Constant (.str s) j p) Γ rTx l := by
  subst h
  exact ev_c pe_str fun _ => rfl
theorem ev_glob {n : Str} {u : Value} {p : Pos} {v : V} (hm : X.mg n = some u) (r : RelV v u) (hc : ∀ F, c.r X.K F v x) (hg : Gl X n := by rfl) (hd : (n == ("__debug__" : Str)) = false := by decide) : EV X (.Name n p) Γ c x :=
  ev_c (pe_glob hg hm r hd) hc

/-! ### operators -/
theorem ez_bin {r : R2} {P1 P2 P3 : VP} (h : PE X e (tOp r (tE X.K Γ P1) (tE X.K Γ P2)))
    (q : ∀ F H v w (Q : VK), Same F H → P1.p X.K F H v → P2.p X.K F H w → (∀ u F' H', Gr F H F' H' → P3.p X.K F' H' u → Q u H') → r v w H Q) : Ez X e Γ P3 :=
  PE.imp h fun σ H Q ⟨F0, H0, F, ok, z⟩ => ⟨F0, H0, F, ok, fun v F1 H1 g1 p1 => ⟨F0, H0, F1, ok.grow g1, fun w F2 H2 g2 p2 =>
    q F2 H2 v w Q g2.sub (P1.mono g2 p1) p2 fun u F3 H3 g3 p3 => z u F3 H3 ((g1.trans g2).trans g3) p3⟩⟩
theorem eo_bin {r : R2} {P1 P2 : VP} {s : Sl} (h : PE X e (tOp r (tE X.K Γ P1) (tE X.K Γ P2)))
    (q : ∀ F H v w (Q : VK), Same F H → P1.p X.K F H v → P2.p X.K F H w → (∀ l ho F' H', Gr F H F' H' → F' l = none → H l = none → H' l = some ho → celO X.K F' s ho → Q (.ref l) H') → r v w H Q) : EO X e Γ s :=
  PE.imp h fun σ H Q ⟨F0, H0, F, ok, z⟩ => ⟨F0, H0, F, ok, fun v F1 H1 g1 p1 => ⟨F0, H0, F1, ok.grow g1, fun w F2 H2 g2 p2 =>
    q F2 H2 v w Q g2.sub (P1.mono g2 p1) p2 fun l ho F3 H3 g3 hF hH hH' p3 => z l ho F3 H3 ((g1.trans g2).trans g3) hF (none_of_same (g1.trans g2).hh hH) hH' p3⟩⟩
/-- a new cell is frozen at once -/
theorem EO.ev {s : Sl} (h : EO X e Γ s) (q : ∀ F l ho, F l = none → celO X.K F s ho → P.p X.K (upd F l ho) (upd F l ho) (.ref l)) (st : ∀ {F H v}, Same F H → P.p X.K F F v → P.p X.K F H v) : Ez X e Γ P :=
  PE.imp h fun σ H Q ⟨F0, H0, F, ok, z⟩ => ⟨F0, H0, F, ok, fun l ho F' H' g hF hl hH p => by
    have sub : Same (upd F' l ho) H' := fun b o e => by
      by_cases hb : b = l
      · subst hb
        rw [upd_same] at e
        cases e
        exact hH
      · rw [upd_ne hb] at e
        exact g.sub _ _ e
    refine z (.ref l) (upd F' l ho) H' ⟨g.hh, g.ff.trans (same_upd hF), sub, fun b o e => ?_⟩ (st sub (q F' l ho hF p))
    by_cases hb : b = l
    · subst hb
      exact .inr hl
    · rw [upd_ne hb] at e
      exact g.new _ _ e⟩
theorem EO.fz {xs : List α} (h : EO X e Γ (.ol c xs)) : EV X e Γ (rL c) xs :=
  EO.ev h (fun F l ho hF ⟨vs, eo, p⟩ => ⟨l, vs, rfl, by rw [eo, upd_same], PL.mono (same_upd hF) p⟩) fun _ h => h

theorem ev_ii {op : Operator} {g : Int → Int → Int} (ho : OpR X (binaryOp op) (rI0 fun i j => .int (g i j))) {i j : Int} (ha : EV X a Γ rInt i) (hb : EV X b Γ rInt j) : EV X (.BinOp a op b pos) Γ rInt (g i j) :=
  ez_bin (pe_op ho ha hb) fun F H v w Q s h1 h2 z => ⟨i, j, h1, h2, z _ F H (Gr.refl s) rfl⟩
theorem ev_iiC {op : Operator} {g : Int → Int → Int} {C : Int → Int → Prop} (ho : OpR X (binaryOp op) (rI C fun i j => .int (g i j))) {i j : Int} (ha : EV X a Γ rInt i) (hb : EV X b Γ rInt j) (hc : C i j) : EV X (.BinOp a op b pos) Γ rInt (g i j) :=
  ez_bin (pe_op ho ha hb) fun F H v w Q s h1 h2 z => ⟨i, j, h1, h2, hc, z _ F H (Gr.refl s) rfl⟩
theorem ev_add {i j : Int} (ha : EV X a Γ rInt i) (hb : EV X b Γ rInt j) : EV X (.BinOp a .Add b pos) Γ rInt (i + j) := ev_ii op_add ha hb
theorem ev_sub {i j : Int} (ha : EV X a Γ rInt i) (hb : EV X b Γ rInt j) : EV X (.BinOp a .Sub b pos) Γ rInt (i - j) := ev_ii op_sub ha hb
theorem ev_mul {i j : Int} (ha : EV X a Γ rInt i) (hb : EV X b Γ rInt j) (hc : CMul i j) : EV X (.BinOp a .Mult b pos) Γ rInt (i * j) := ev_iiC op_mul ha hb hc
theorem ev_mod {i j : Int} (ha : EV X a Γ rInt i) (hb : EV X b Γ rInt j) (hc : 0 < j) : EV X (.BinOp a .Mod b pos) Γ rInt (i % j) := ev_iiC op_mod ha hb hc
theorem ev_fdiv {i j : Int} (ha : EV X a Γ rInt i) (hb : EV X b Γ rInt j) (hc : CDiv i j) : EV X (.BinOp a .FloorDiv b pos) Γ rInt (i / j) := ev_iiC op_fdiv ha hb hc
theorem ev_pow {i j : Int} (ha : EV X a Γ rInt i) (hb : EV X b Γ rInt j) (hc : CPow i j) : EV X (.BinOp a .Pow b pos) Γ rInt (i ^ j.toNat) := ev_iiC op_pow ha hb hc
theorem ev_neg {i : Int} (ha : EV X a Γ rInt i) : EV X (.UnaryOp .USub a pos) Γ rInt (-i) :=
  PE.imp (pe_un un_neg ha) fun σ H Q ⟨F0, H0, F, ok, q⟩ => ⟨F0, H0, F, ok, fun v F' H' g h => ⟨i, h, q _ F' H' g rfl⟩⟩
theorem tx_app (l m : List Nat) : tx l ++ tx m = tx (l ++ m) := by
  apply ext_toList
  show ((tx l).cps ++ (tx m).cps).toList = _
  simp [tx]
/-- texts: + -/
theorem ev_cat {l m : List Nat} (ha : EV X a Γ rTx l) (hb : EV X b Γ rTx m) (hc : l.length + m.length ≤ 16777216) : EV X (.BinOp a .Add b pos) Γ rTx (l ++ m) :=
  ez_bin (pe_op op_add_str ha hb) fun F H v w Q s h1 h2 z => ⟨tx l, tx m, h1, h2, by rw [tx_len, tx_len, sizeLine_eq]; exact hc, by rw [tx_app]; exact z _ F H (Gr.refl s) rfl⟩
/-- tuples: + -/
theorem ev_catT {l m : List α} (ha : EV X a Γ (rT c) l) (hb : EV X b Γ (rT c) m) (hc : l.length + m.length ≤ 16777216) : EV X (.BinOp a .Add b pos) Γ (rT c) (l ++ m) :=
  ez_bin (pe_op op_catA ha hb) fun F H v w Q s ⟨p, vs, e1, h1, r1⟩ ⟨q, ws, e2, h2, r2⟩ z => ⟨p, q, vs, ws, e1, e2, SqT.same s h1, SqT.same s h2, by rw [Paired.length r1, Paired.length r2, sizeLine_eq]; exact hc, fun n => by
      subst n
      cases r1
      exact z _ F H (Gr.refl s) ⟨q, ws, rfl, h2, r2⟩,
    fun n n2 => by
      subst n2
      cases r2
      rw [List.append_nil] at z
      exact z _ F H (Gr.refl s) ⟨p, vs, rfl, h1, r1⟩,
    fun n n2 t ht => z _ (upd F t (.tup (vs ++ ws))) _ (Gr.put s ht) ⟨t, vs ++ ws, rfl, SqT.of upd_same, Paired.append (PL.mono (same_upd (none_of_same s ht)) r1) (PL.mono (same_upd (none_of_same s ht)) r2)⟩⟩
/-- frozen lists: + -/
theorem eo_catL {l m : List α} (ha : EV X a Γ (rL c) l) (hb : EV X b Γ (rL c) m) (hc : l.length + m.length ≤ 16777216) : EO X (.BinOp a .Add b pos) Γ (.ol c (l ++ m)) :=
  eo_bin (pe_op op_cat ha hb) fun F H v w Q s ⟨p, vs, e1, h1, r1⟩ ⟨q, ws, e2, h2, r2⟩ z => ⟨p, q, vs, ws, e1, e2, s _ _ h1, s _ _ h2, by rw [Paired.length r1, Paired.length r2, sizeLine_eq]; exact hc,
    fun t ht => z t _ F _ (Gr.hold s ht) (none_of_same s ht) ht upd_same ⟨vs ++ ws, rfl, Paired.append r1 r2⟩⟩

/-! ### comparisons -/
theorem ev_cmpI {op : CmpOp} {g : Int → Int → Bool} (ho : OpR X (compareOp op) (rI0 fun i j => .bl (g i j))) (hm : behindInMarks op b = false) {i j : Int} (ha : EV X a Γ rInt i) (hb : EV X b Γ rInt j) : EV X (.Compare a [op] [b] pos) Γ rBool (g i j) :=
  ez_bin (pe_cmpR ho ha hb hm) fun F H v w Q s h1 h2 z => ⟨i, j, h1, h2, z _ F H (Gr.refl s) rfl⟩
theorem ev_lt {i j : Int} (ha : EV X a Γ rInt i) (hb : EV X b Γ rInt j) : EV X (.Compare a [.Lt] [b] pos) Γ rBool (decide (i < j)) := ev_cmpI op_lt (nomark _) ha hb
theorem ev_le {i j : Int} (ha : EV X a Γ rInt i) (hb : EV X b Γ rInt j) : EV X (.Compare a [.LtE] [b] pos) Γ rBool (decide (i ≤ j)) := ev_cmpI op_le (nomark _) ha hb
theorem ev_gt {i j : Int} (ha : EV X a Γ rInt i) (hb : EV X b Γ rInt j) : EV X (.Compare a [.Gt] [b] pos) Γ rBool (decide (j < i)) := ev_cmpI op_gt (nomark _) ha hb
theorem ev_ge {i j : Int} (ha : EV X a Γ rInt i) (hb : EV X b Γ rInt j) : EV X (.Compare a [.GtE] [b] pos) Γ rBool (decide (j ≤ i)) := ev_cmpI op_ge (nomark _) ha hb
theorem ev_eqI {i j : Int} (ha : EV X a Γ rInt i) (hb : EV X b Γ rInt j) : EV X (.Compare a [.Eq] [b] pos) Γ rBool (decide (i = j)) :=
  ez_bin (pe_cmpR op_eq ha hb (nomark _)) fun F H v w Q s h1 h2 z => by
    cases h1
    cases h2
    refine ⟨rfl, z _ F H (Gr.refl s) ?_⟩
    show V.bl _ = V.bl _
    rw [dec_int, Bool.beq_eq_decide_eq]
theorem ev_neI {i j : Int} (ha : EV X a Γ rInt i) (hb : EV X b Γ rInt j) : EV X (.Compare a [.NotEq] [b] pos) Γ rBool (!decide (i = j)) :=
  ez_bin (pe_cmpR op_ne ha hb (nomark _)) fun F H v w Q s h1 h2 z => by
    cases h1
    cases h2
    refine ⟨rfl, z _ F H (Gr.refl s) ?_⟩
    show V.bl _ = V.bl _
    rw [dec_int, Bool.beq_eq_decide_eq]
theorem dec_tx {l m : List Nat} : decide (V.str (tx l) = V.str (tx m)) = decide (l = m) := by
  by_cases h : l = m
  · subst h
    simp
  · rw [decide_eq_false h]
    exact decide_eq_false fun e => h (tx_inj (V.str.inj e))
theorem ev_eqT {i j : List Nat} (ha : EV X a Γ rTx i) (hb : EV X b Γ rTx j) : EV X (.Compare a [.Eq] [b] pos) Γ rBool (decide (i = j)) :=
  ez_bin (pe_cmpR op_eq ha hb (nomark _)) fun F H v w Q s h1 h2 z => by
    cases h1
    cases h2
    refine ⟨rfl, z _ F H (Gr.refl s) ?_⟩
    show V.bl _ = V.bl _
    rw [dec_tx]
theorem ev_neT {i j : List Nat} (ha : EV X a Γ rTx i) (hb : EV X b Γ rTx j) : EV X (.Compare a [.NotEq] [b] pos) Γ rBool (!decide (i = j)) :=
  ez_bin (pe_cmpR op_ne ha hb (nomark _)) fun F H v w Q s h1 h2 z => by
    cases h1
    cases h2
    refine ⟨rfl, z _ F H (Gr.refl s) ?_⟩
    show V.bl _ = V.bl _
    rw [dec_tx]
theorem ev_ltT {i j : List Nat} (ha : EV X a Γ rTx i) (hb : EV X b Γ rTx j) : EV X (.Compare a [.Lt] [b] pos) Γ rBool (decide (i < j)) :=
  ez_bin (pe_cmpR op_lt_str ha hb (nomark _)) fun F H v w Q s h1 h2 z => ⟨tx i, tx j, h1, h2, z _ F H (Gr.refl s) (by rw [tx_toList, tx_toList]; rfl)⟩
theorem ev_gtT {i j : List Nat} (ha : EV X a Γ rTx i) (hb : EV X b Γ rTx j) : EV X (.Compare a [.Gt] [b] pos) Γ rBool (decide (j < i)) :=
  ez_bin (pe_cmpR op_gt_str ha hb (nomark _)) fun F H v w Q s h1 h2 z => ⟨tx i, tx j, h1, h2, z _ F H (Gr.refl s) (by rw [tx_toList, tx_toList]; rfl)⟩
theorem ev_geT {i j : List Nat} (ha : EV X a Γ rTx i) (hb : EV X b Γ rTx j) : EV X (.Compare a [.GtE] [b] pos) Γ rBool (!decide (i < j)) :=
  ez_bin (pe_cmpR op_ge_str ha hb (nomark _)) fun F H v w Q s h1 h2 z => ⟨tx i, tx j, h1, h2, z _ F H (Gr.refl s) (by rw [tx_toList, tx_toList]; rfl)⟩
theorem ev_leT {i j : List Nat} (ha : EV X a Γ rTx i) (hb : EV X b Γ rTx j) : EV X (.Compare a [.LtE] [b] pos) Γ rBool (!decide (j < i)) :=
  ez_bin (pe_cmpR op_le_str ha hb (nomark _)) fun F H v w Q s h1 h2 z => ⟨tx i, tx j, h1, h2, z _ F H (Gr.refl s) (by rw [tx_toList, tx_toList]; rfl)⟩
/-- in, not in -/
theorem inV_tx {l : List Nat} : ∀ {K : Frag} {F : Hp} {vs : List V} {xs : List (List Nat)}, PL rTx K F vs xs → inV (.str (tx l)) vs = decide (l ∈ xs) ∧ vs.all flatV = true
  | _, _, _, _, .nil => ⟨by simp [inV], rfl⟩
  | _, _, _, x :: xs, .cons r t => by
    obtain ⟨i1, i2⟩ := inV_tx (l := l) t
    cases r
    refine ⟨?_, by simpa [flatV] using i2⟩
    unfold inV at i1 ⊢
    rw [List.any_cons, i1]
    show (tx x == tx l || decide (l ∈ xs)) = _
    by_cases h : l = x
    · subst h
      simp
    · have : (tx x == tx l) = false := beq_eq_false_iff_ne.mpr fun e => h (tx_inj e).symm
      simp [this, h]
theorem inV_int {l : Int} : ∀ {K : Frag} {F : Hp} {vs : List V} {xs : List Int}, PL rInt K F vs xs → inV (.int l) vs = decide (l ∈ xs) ∧ vs.all flatV = true
  | _, _, _, _, .nil => ⟨by simp [inV], rfl⟩
  | _, _, _, x :: xs, .cons r t => by
    obtain ⟨i1, i2⟩ := inV_int (l := l) t
    cases r
    refine ⟨?_, by simpa [flatV] using i2⟩
    unfold inV at i1 ⊢
    rw [List.any_cons, i1]
    show (x == l || decide (l ∈ xs)) = _
    by_cases h : l = x
    · subst h
      simp
    · have : (x == l) = false := beq_eq_false_iff_ne.mpr fun e => h e.symm
      simp [this, h]
theorem ev_inTL {i : List Nat} {xs : List (List Nat)} (ha : EV X a Γ rTx i) (hb : EL X b Γ rTx xs) (hm : behindInMarks .In b = false := by with_unfolding_all rfl) : EV X (.Compare a [.In] [b] pos) Γ rBool (decide (i ∈ xs)) :=
  ez_bin (pe_cmpR op_in_seq ha hb hm) fun F H v w Q s h1 ⟨l, vs, e, hl, p⟩ z => by
    cases h1
    obtain ⟨q1, q2⟩ := inV_tx (l := i) p
    exact ⟨l, vs, e, .inl hl, rfl, q2, by rw [q1]; exact z _ F H (Gr.refl s) rfl⟩
theorem ev_ninTL {i : List Nat} {xs : List (List Nat)} (ha : EV X a Γ rTx i) (hb : EL X b Γ rTx xs) (hm : behindInMarks .NotIn b = false := by with_unfolding_all rfl) : EV X (.Compare a [.NotIn] [b] pos) Γ rBool (!decide (i ∈ xs)) :=
  ez_bin (pe_cmpR op_notIn_seq ha hb hm) fun F H v w Q s h1 ⟨l, vs, e, hl, p⟩ z => by
    cases h1
    obtain ⟨q1, q2⟩ := inV_tx (l := i) p
    exact ⟨l, vs, e, .inl hl, rfl, q2, by simp only [if_true]; rw [q1]; exact z _ F H (Gr.refl s) rfl⟩
theorem ev_inTT {i : List Nat} {xs : List (List Nat)} (ha : EV X a Γ rTx i) (hb : EV X b Γ (rT rTx) xs) (hm : behindInMarks .In b = false := by with_unfolding_all rfl) : EV X (.Compare a [.In] [b] pos) Γ rBool (decide (i ∈ xs)) :=
  ez_bin (pe_cmpR op_in_seq ha hb hm) fun F H v w Q s h1 ⟨l, vs, e, hl, p⟩ z => by
    cases h1
    obtain ⟨q1, q2⟩ := inV_tx (l := i) p
    exact ⟨l, vs, e, .inr (SqT.same s hl), rfl, q2, by rw [q1]; exact z _ F H (Gr.refl s) rfl⟩
theorem ev_ninTT {i : List Nat} {xs : List (List Nat)} (ha : EV X a Γ rTx i) (hb : EV X b Γ (rT rTx) xs) (hm : behindInMarks .NotIn b = false := by with_unfolding_all rfl) : EV X (.Compare a [.NotIn] [b] pos) Γ rBool (!decide (i ∈ xs)) :=
  ez_bin (pe_cmpR op_notIn_seq ha hb hm) fun F H v w Q s h1 ⟨l, vs, e, hl, p⟩ z => by
    cases h1
    obtain ⟨q1, q2⟩ := inV_tx (l := i) p
    exact ⟨l, vs, e, .inr (SqT.same s hl), rfl, q2, by simp only [if_true]; rw [q1]; exact z _ F H (Gr.refl s) rfl⟩
/-- a sign in a text -/
theorem ev_inS {i : Nat} {xs : List Nat} (ha : EV X a Γ rTx [i]) (hb : EV X b Γ rTx xs) (hm : behindInMarks .In b = false := by with_unfolding_all rfl) : EV X (.Compare a [.In] [b] pos) Γ rBool (decide (i ∈ xs)) :=
  ez_bin (pe_cmpR op_in_sign ha hb hm) fun F H v w Q s h1 h2 z => ⟨i, tx xs, h1, h2, z _ F H (Gr.refl s) (by rw [tx_toList]; rfl)⟩
theorem ev_ninS {i : Nat} {xs : List Nat} (ha : EV X a Γ rTx [i]) (hb : EV X b Γ rTx xs) (hm : behindInMarks .NotIn b = false := by with_unfolding_all rfl) : EV X (.Compare a [.NotIn] [b] pos) Γ rBool (!decide (i ∈ xs)) :=
  ez_bin (pe_cmpR op_notIn_sign ha hb hm) fun F H v w Q s h1 h2 z => ⟨i, tx xs, h1, h2, z _ F H (Gr.refl s) (by rw [tx_toList]; rfl)⟩
theorem ev_inIL {i : Int} {xs : List Int} (ha : EV X a Γ rInt i) (hb : EL X b Γ rInt xs) (hm : behindInMarks .In b = false := by with_unfolding_all rfl) : EV X (.Compare a [.In] [b] pos) Γ rBool (decide (i ∈ xs)) :=
  ez_bin (pe_cmpR op_in_seq ha hb hm) fun F H v w Q s h1 ⟨l, vs, e, hl, p⟩ z => by
    cases h1
    obtain ⟨q1, q2⟩ := inV_int (l := i) p
    exact ⟨l, vs, e, .inl hl, rfl, q2, by rw [q1]; exact z _ F H (Gr.refl s) rfl⟩
theorem ev_inIT {i : Int} {xs : List Int} (ha : EV X a Γ rInt i) (hb : EV X b Γ (rT rInt) xs) (hm : behindInMarks .In b = false := by with_unfolding_all rfl) : EV X (.Compare a [.In] [b] pos) Γ rBool (decide (i ∈ xs)) :=
  ez_bin (pe_cmpR op_in_seq ha hb hm) fun F H v w Q s h1 ⟨l, vs, e, hl, p⟩ z => by
    cases h1
    obtain ⟨q1, q2⟩ := inV_int (l := i) p
    exact ⟨l, vs, e, .inr (SqT.same s hl), rfl, q2, by rw [q1]; exact z _ F H (Gr.refl s) rfl⟩
theorem ev_ninIT {i : Int} {xs : List Int} (ha : EV X a Γ rInt i) (hb : EV X b Γ (rT rInt) xs) (hm : behindInMarks .NotIn b = false := by with_unfolding_all rfl) : EV X (.Compare a [.NotIn] [b] pos) Γ rBool (!decide (i ∈ xs)) :=
  ez_bin (pe_cmpR op_notIn_seq ha hb hm) fun F H v w Q s h1 ⟨l, vs, e, hl, p⟩ z => by
    cases h1
    obtain ⟨q1, q2⟩ := inV_int (l := i) p
    exact ⟨l, vs, e, .inr (SqT.same s hl), rfl, q2, by simp only [if_true]; rw [q1]; exact z _ F H (Gr.refl s) rfl⟩

/-! ### tests -/
theorem EB.of {k : Bool} (h : EV X e Γ rBool k) (he : ∀ whole, isTrue e X.env whole = (do let v ← whole; standAt e.pos; holding [v] (truthy v)) := by intro _; rfl) : EB X e Γ k :=
  PT.imp (pt_val h he) fun σ H Q ⟨F0, H0, F, ok, q⟩ => ⟨F0, H0, F, ok, fun v F' H' g p => ⟨k, p, q F' H' g⟩⟩
theorem eb_cmp {k : Bool} {op : CmpOp} {r : R2} {P1 P2 : VP} (ho : OpR X (compareOp op) r) (ha : Ez X a Γ P1) (hb : Ez X b Γ P2) (hm : behindInMarks op b = false)
    (q : ∀ F H v w (Q : VK), Same F H → P1.p X.K F H v → P2.p X.K F H w → Q (.bl k) H → r v w H Q) : EB X (.Compare a [op] [b] pos) Γ k :=
  PT.imp (pt_cmpR ho ha hb hm) fun σ H Q ⟨F0, H0, F, ok, z⟩ => ⟨F0, H0, F, ok, fun v F1 H1 g1 p1 => ⟨F0, H0, F1, ok.grow g1, fun w F2 H2 g2 p2 =>
    q F2 H2 v w _ g2.sub (P1.mono g2 p1) p2 ⟨k, rfl, z F2 H2 (g1.trans g2)⟩⟩⟩
theorem eb_lt {i j : Int} (ha : EV X a Γ rInt i) (hb : EV X b Γ rInt j) : EB X (.Compare a [.Lt] [b] pos) Γ (decide (i < j)) := eb_cmp op_lt ha hb (nomark _) fun F H v w Q s h1 h2 z => ⟨i, j, h1, h2, z⟩
theorem eb_le {i j : Int} (ha : EV X a Γ rInt i) (hb : EV X b Γ rInt j) : EB X (.Compare a [.LtE] [b] pos) Γ (decide (i ≤ j)) := eb_cmp op_le ha hb (nomark _) fun F H v w Q s h1 h2 z => ⟨i, j, h1, h2, z⟩
theorem eb_gt {i j : Int} (ha : EV X a Γ rInt i) (hb : EV X b Γ rInt j) : EB X (.Compare a [.Gt] [b] pos) Γ (decide (j < i)) := eb_cmp op_gt ha hb (nomark _) fun F H v w Q s h1 h2 z => ⟨i, j, h1, h2, z⟩
theorem eb_ge {i j : Int} (ha : EV X a Γ rInt i) (hb : EV X b Γ rInt j) : EB X (.Compare a [.GtE] [b] pos) Γ (decide (j ≤ i)) := eb_cmp op_ge ha hb (nomark _) fun F H v w Q s h1 h2 z => ⟨i, j, h1, h2, z⟩
theorem eb_eqI {i j : Int} (ha : EV X a Γ rInt i) (hb : EV X b Γ rInt j) : EB X (.Compare a [.Eq] [b] pos) Γ (decide (i = j)) :=
  eb_cmp op_eq ha hb (nomark _) fun F H v w Q s h1 h2 z => by
    cases h1
    cases h2
    rw [← Bool.beq_eq_decide_eq, ← dec_int] at z
    exact ⟨rfl, z⟩
theorem eb_neI {i j : Int} (ha : EV X a Γ rInt i) (hb : EV X b Γ rInt j) : EB X (.Compare a [.NotEq] [b] pos) Γ (!decide (i = j)) :=
  eb_cmp op_ne ha hb (nomark _) fun F H v w Q s h1 h2 z => by
    cases h1
    cases h2
    rw [← Bool.beq_eq_decide_eq, ← dec_int] at z
    exact ⟨rfl, z⟩
theorem eb_eqT {i j : List Nat} (ha : EV X a Γ rTx i) (hb : EV X b Γ rTx j) : EB X (.Compare a [.Eq] [b] pos) Γ (decide (i = j)) :=
  eb_cmp op_eq ha hb (nomark _) fun F H v w Q s h1 h2 z => by
    cases h1
    cases h2
    rw [← dec_tx] at z
    exact ⟨rfl, z⟩
theorem eb_neT {i j : List Nat} (ha : EV X a Γ rTx i) (hb : EV X b Γ rTx j) : EB X (.Compare a [.NotEq] [b] pos) Γ (!decide (i = j)) :=
  eb_cmp op_ne ha hb (nomark _) fun F H v w Q s h1 h2 z => by
    cases h1
    cases h2
    rw [← dec_tx] at z
    exact ⟨rfl, z⟩
theorem eb_ltT {i j : List Nat} (ha : EV X a Γ rTx i) (hb : EV X b Γ rTx j) : EB X (.Compare a [.Lt] [b] pos) Γ (decide (i < j)) :=
  eb_cmp op_lt_str ha hb (nomark _) fun F H v w Q s h1 h2 z => ⟨tx i, tx j, h1, h2, by rw [tx_toList, tx_toList]; exact z⟩
theorem eb_gtT {i j : List Nat} (ha : EV X a Γ rTx i) (hb : EV X b Γ rTx j) : EB X (.Compare a [.Gt] [b] pos) Γ (decide (j < i)) :=
  eb_cmp op_gt_str ha hb (nomark _) fun F H v w Q s h1 h2 z => ⟨tx i, tx j, h1, h2, by rw [tx_toList, tx_toList]; exact z⟩
theorem eb_geT {i j : List Nat} (ha : EV X a Γ rTx i) (hb : EV X b Γ rTx j) : EB X (.Compare a [.GtE] [b] pos) Γ (!decide (i < j)) :=
  eb_cmp op_ge_str ha hb (nomark _) fun F H v w Q s h1 h2 z => ⟨tx i, tx j, h1, h2, by rw [tx_toList, tx_toList]; exact z⟩
theorem eb_leT {i j : List Nat} (ha : EV X a Γ rTx i) (hb : EV X b Γ rTx j) : EB X (.Compare a [.LtE] [b] pos) Γ (!decide (j < i)) :=
  eb_cmp op_le_str ha hb (nomark _) fun F H v w Q s h1 h2 z => ⟨tx i, tx j, h1, h2, by rw [tx_toList, tx_toList]; exact z⟩
theorem eb_inTL {i : List Nat} {xs : List (List Nat)} (ha : EV X a Γ rTx i) (hb : EL X b Γ rTx xs) (hm : behindInMarks .In b = false := by with_unfolding_all rfl) : EB X (.Compare a [.In] [b] pos) Γ (decide (i ∈ xs)) :=
  eb_cmp op_in_seq ha hb hm fun F H v w Q s h1 ⟨l, vs, e, hl, p⟩ z => by
    cases h1
    obtain ⟨q1, q2⟩ := inV_tx (l := i) p
    exact ⟨l, vs, e, .inl hl, rfl, q2, by rw [q1]; exact z⟩
theorem eb_ninTL {i : List Nat} {xs : List (List Nat)} (ha : EV X a Γ rTx i) (hb : EL X b Γ rTx xs) (hm : behindInMarks .NotIn b = false := by with_unfolding_all rfl) : EB X (.Compare a [.NotIn] [b] pos) Γ (!decide (i ∈ xs)) :=
  eb_cmp op_notIn_seq ha hb hm fun F H v w Q s h1 ⟨l, vs, e, hl, p⟩ z => by
    cases h1
    obtain ⟨q1, q2⟩ := inV_tx (l := i) p
    exact ⟨l, vs, e, .inl hl, rfl, q2, by simp only [if_true]; rw [q1]; exact z⟩
theorem eb_inTT {i : List Nat} {xs : List (List Nat)} (ha : EV X a Γ rTx i) (hb : EV X b Γ (rT rTx) xs) (hm : behindInMarks .In b = false := by with_unfolding_all rfl) : EB X (.Compare a [.In] [b] pos) Γ (decide (i ∈ xs)) :=
  eb_cmp op_in_seq ha hb hm fun F H v w Q s h1 ⟨l, vs, e, hl, p⟩ z => by
    cases h1
    obtain ⟨q1, q2⟩ := inV_tx (l := i) p
    exact ⟨l, vs, e, .inr (SqT.same s hl), rfl, q2, by rw [q1]; exact z⟩
theorem eb_ninTT {i : List Nat} {xs : List (List Nat)} (ha : EV X a Γ rTx i) (hb : EV X b Γ (rT rTx) xs) (hm : behindInMarks .NotIn b = false := by with_unfolding_all rfl) : EB X (.Compare a [.NotIn] [b] pos) Γ (!decide (i ∈ xs)) :=
  eb_cmp op_notIn_seq ha hb hm fun F H v w Q s h1 ⟨l, vs, e, hl, p⟩ z => by
    cases h1
    obtain ⟨q1, q2⟩ := inV_tx (l := i) p
    exact ⟨l, vs, e, .inr (SqT.same s hl), rfl, q2, by simp only [if_true]; rw [q1]; exact z⟩
theorem eb_inS {i : Nat} {xs : List Nat} (ha : EV X a Γ rTx [i]) (hb : EV X b Γ rTx xs) (hm : behindInMarks .In b = false := by with_unfolding_all rfl) : EB X (.Compare a [.In] [b] pos) Γ (decide (i ∈ xs)) :=
  eb_cmp op_in_sign ha hb hm fun F H v w Q s h1 h2 z => ⟨i, tx xs, h1, h2, by rw [tx_toList]; exact z⟩
theorem eb_ninS {i : Nat} {xs : List Nat} (ha : EV X a Γ rTx [i]) (hb : EV X b Γ rTx xs) (hm : behindInMarks .NotIn b = false := by with_unfolding_all rfl) : EB X (.Compare a [.NotIn] [b] pos) Γ (!decide (i ∈ xs)) :=
  eb_cmp op_notIn_sign ha hb hm fun F H v w Q s h1 h2 z => ⟨i, tx xs, h1, h2, by rw [tx_toList]; exact z⟩
theorem eb_not {k : Bool} (h : EB X a Γ k) : EB X (.UnaryOp .Not a pos) Γ (!k) :=
  PT.imp (pt_not h) fun σ H Q ⟨F0, H0, F, ok, q⟩ => ⟨F0, H0, F, ok, q⟩
theorem ev_not {k : Bool} (h : EV X a Γ rBool k) : EV X (.UnaryOp .Not a pos) Γ rBool (!k) :=
  PE.imp (pe_not h) fun σ H Q ⟨F0, H0, F, ok, q⟩ => ⟨F0, H0, F, ok, fun v F' H' g p => ⟨k, p, q _ F' H' g rfl⟩⟩
theorem pw_never {e : Expr} : PW X e (fun _ _ _ => False) := ⟨fun _ _ _ _ _ _ _ h => h.elim⟩
theorem pt_never {e : Expr} : PT X e (fun _ _ _ => False) := ⟨fun _ _ _ _ _ _ h => h.elim⟩
theorem pe_never {e : Expr} : PE X e (fun _ _ _ => False) := ⟨fun _ _ _ _ _ _ h => h.elim⟩
theorem EW.eb {k : Bool} (h : EW X e Γ k) : EB X e Γ k := h.pt
theorem ew_and1 {k : Bool} (h : EB X a Γ k) : EW X (.BoolOp .And [a] pos) Γ k := pw_and1 h
theorem ew_or1 {k : Bool} (h : EB X a Γ k) : EW X (.BoolOp .Or [a] pos) Γ k := pw_or1 h
theorem ew_and {p q : Bool} (ha : EB X a Γ p) (hb : p = true → EW X (.BoolOp .And (b :: es) pos) Γ q) : EW X (.BoolOp .And (a :: b :: es) pos) Γ (p && q) := by
  cases p with
  | true =>
    refine PW.imp (pw_and ha (hb rfl)) fun σ H Q ⟨F0, H0, F, ok, z⟩ => ⟨F0, H0, F, ok, fun F' H' g => ?_⟩
    exact iteT ⟨F0, H0, F', ok.grow g, fun F2 H2 g2 => z F2 H2 (g.trans g2)⟩
  | false =>
    refine PW.imp (pw_and ha pw_never) fun σ H Q ⟨F0, H0, F, ok, z⟩ => ⟨F0, H0, F, ok, fun F' H' g => ?_⟩
    exact iteF (z F' H' g)
theorem ew_or {p q : Bool} (ha : EB X a Γ p) (hb : p = false → EW X (.BoolOp .Or (b :: es) pos) Γ q) : EW X (.BoolOp .Or (a :: b :: es) pos) Γ (p || q) := by
  cases p with
  | false =>
    refine PW.imp (pw_or ha (hb rfl)) fun σ H Q ⟨F0, H0, F, ok, z⟩ => ⟨F0, H0, F, ok, fun F' H' g => ?_⟩
    exact iteF ⟨F0, H0, F', ok.grow g, fun F2 H2 g2 => z F2 H2 (g.trans g2)⟩
  | true =>
    refine PW.imp (pw_or ha pw_never) fun σ H Q ⟨F0, H0, F, ok, z⟩ => ⟨F0, H0, F, ok, fun F' H' g => ?_⟩
    exact iteT (z F' H' g)
theorem ev_one {op} {P : VP} (h : Ez X a Γ P) : Ez X (.BoolOp op [a] pos) Γ P := pe_one h
theorem ev_and {p q : Bool} (ha : EV X a Γ rBool p) (hb : p = true → EV X (.BoolOp .And (b :: es) pos) Γ rBool q) : EV X (.BoolOp .And (a :: b :: es) pos) Γ rBool (p && q) := by
  cases p with
  | true =>
    refine PE.imp (pe_and ha (hb rfl)) fun σ H Q ⟨F0, H0, F, ok, z⟩ => ⟨F0, H0, F, ok, fun v F' H' g h => ⟨true, h, ?_⟩⟩
    exact iteT ⟨F0, H0, F', ok.grow g, fun v F2 H2 g2 => z v F2 H2 (g.trans g2)⟩
  | false =>
    refine PE.imp (pe_and ha pe_never) fun σ H Q ⟨F0, H0, F, ok, z⟩ => ⟨F0, H0, F, ok, fun v F' H' g h => ⟨false, h, ?_⟩⟩
    exact iteF (z _ F' H' g rfl)
theorem ev_or {p q : Bool} (ha : EV X a Γ rBool p) (hb : p = false → EV X (.BoolOp .Or (b :: es) pos) Γ rBool q) : EV X (.BoolOp .Or (a :: b :: es) pos) Γ rBool (p || q) := by
  cases p with
  | false =>
    refine PE.imp (pe_or ha (hb rfl)) fun σ H Q ⟨F0, H0, F, ok, z⟩ => ⟨F0, H0, F, ok, fun v F' H' g h => ⟨false, h, ?_⟩⟩
    exact iteF ⟨F0, H0, F', ok.grow g, fun v F2 H2 g2 => z v F2 H2 (g.trans g2)⟩
  | true =>
    refine PE.imp (pe_or ha pe_never) fun σ H Q ⟨F0, H0, F, ok, z⟩ => ⟨F0, H0, F, ok, fun v F' H' g h => ⟨true, h, ?_⟩⟩
    exact iteT (z _ F' H' g rfl)
/-- a if t else b -/
theorem ev_ite {t : Expr} {p : Bool} {x y : α} (ht : EB X t Γ p) (ha : p = true → EV X a Γ c x) (hb : p = false → EV X b Γ c y) : EV X (.IfExp t a b pos) Γ c (if p = true then x else y) := by
  cases p with
  | true =>
    refine PE.imp (pe_ifExp ht (ha rfl) pe_never) fun σ H Q ⟨F0, H0, F, ok, z⟩ => ⟨F0, H0, F, ok, fun F' H' g => ?_⟩
    exact iteT ⟨F0, H0, F', ok.grow g, fun v F2 H2 g2 => z v F2 H2 (g.trans g2)⟩
  | false =>
    refine PE.imp (pe_ifExp ht pe_never (hb rfl)) fun σ H Q ⟨F0, H0, F, ok, z⟩ => ⟨F0, H0, F, ok, fun F' H' g => ?_⟩
    exact iteF ⟨F0, H0, F', ok.grow g, fun v F2 H2 g2 => z v F2 H2 (g.trans g2)⟩

/-! ### arguments, displays -/
theorem ea_nil : EA X [] Γ [] := PA.imp pa_nil fun σ H Q ⟨F0, H0, F, ok, q⟩ => q [] F H (Gr.refl ok.sub) .nil
theorem ea_cons {P : VP} {Ps : List VP} (h : Ez X e Γ P) (hr : EA X es Γ Ps) (hs : starEach (e :: es) X.env = (false, eval e X.env) :: starEach es X.env := by rfl) : EA X (e :: es) Γ (P :: Ps) :=
  PA.imp (pa_cons h hr hs) fun σ H Q ⟨F0, H0, F, ok, q⟩ => ⟨F0, H0, F, ok, fun v F1 H1 g1 p1 => ⟨F0, H0, F1, ok.grow g1, fun vs F2 H2 g2 p2 => q (v :: vs) F2 H2 (g1.trans g2) (.cons (P.mono g2 p1) p2)⟩⟩
theorem ea1 {P : VP} (h : Ez X e Γ P) (hs : starEach [e] X.env = [(false, eval e X.env)] := by rfl) : EA X [e] Γ [P] := ea_cons h ea_nil hs
theorem PL.of_vvs {K : Frag} {F H : Hp} : ∀ {vs : List V} {xs : List α}, Paired (fun v (P : VP) => P.p K F H v) vs (xs.map (vv c)) → PL c K F vs xs
  | _, [], .nil => .nil
  | _, _ :: _, .cons r t => .cons r (PL.of_vvs t)
/-- alike items -/
theorem ev_tup {xs : List α} {x1} (h : EA X es Γ (xs.map (vv c))) (hz : xs.length ≤ 16777216) : EV X (.Tuple es x1 pos) Γ (rT c) xs :=
  PE.imp (pe_tup h) fun σ H Q ⟨F0, H0, F, ok, q⟩ => ⟨F0, H0, F, ok, fun vs F1 H1 g1 p1 => by
    have pl := PL.of_vvs p1
    refine ⟨by rw [Paired.length pl, sizeLine_eq]; exact hz, fun p hp => q _ (upd F1 p (.tup vs)) _ (g1.trans (Gr.put g1.sub hp)) ?_⟩
    exact ⟨p, vs, rfl, SqT.of upd_same, PL.mono (same_upd (none_of_same g1.sub hp)) pl⟩⟩
theorem eo_lst {xs : List α} (h : EA X es Γ (xs.map (vv c))) (hz : xs.length ≤ 16777216) : EO X (.List es pos) Γ (.ol c xs) :=
  PE.imp (pe_lst h) fun σ H Q ⟨F0, H0, F, ok, q⟩ => ⟨F0, H0, F, ok, fun vs F1 H1 g1 p1 => by
    have pl := PL.of_vvs p1
    refine ⟨by rw [Paired.length pl, sizeLine_eq]; exact hz, fun p hp => q p _ F1 _ (g1.trans (Gr.hold g1.sub hp)) (none_of_same g1.sub hp) (none_of_same g1.hh hp) upd_same ⟨vs, rfl, pl⟩⟩⟩
theorem eo_nil : EO X (.List [] pos) Γ (.ol c []) := eo_lst (xs := []) ea_nil (Nat.zero_le _)
theorem ev_tup2 {x1} (ha : EV X a Γ c x) (hb : EV X b Γ d y) (hs : starEach [a, b] X.env = (false, eval a X.env) :: starEach [b] X.env := by rfl) (hs2 : starEach [b] X.env = [(false, eval b X.env)] := by rfl) :
    EV X (.Tuple [a, b] x1 pos) Γ (r2 c d) (x, y) :=
  PE.imp (pe_tup (ea_cons ha (ea1 hb hs2) hs)) fun σ H Q ⟨F0, H0, F, ok, q⟩ => ⟨F0, H0, F, ok, fun vs F1 H1 g1 p1 => by
    obtain _ | ⟨q1, p2⟩ := p1
    obtain _ | ⟨q2, p3⟩ := p2
    cases p3
    have s : ∀ (p : Addr) (o : HO), H1 p = none → Same F1 (upd F1 p o) := fun p o hp => same_upd (none_of_same g1.sub hp)
    exact ⟨by show 2 ≤ sizeLine; decide, fun p hp => q _ (upd F1 p (.tup _)) _ (g1.trans (Gr.put g1.sub hp)) ⟨p, _, _, rfl, SqT.of upd_same, c.mono (s p _ hp) q1, d.mono (s p _ hp) q2⟩⟩⟩
theorem ev_lst2 (ha : EV X a Γ c x) (hb : EV X b Γ d y) (hs : starEach [a, b] X.env = (false, eval a X.env) :: starEach [b] X.env := by rfl) (hs2 : starEach [b] X.env = [(false, eval b X.env)] := by rfl) :
    EV X (.List [a, b] pos) Γ (rL2 c d) (x, y) :=
  PE.imp (pe_lst (ea_cons ha (ea1 hb hs2) hs)) fun σ H Q ⟨F0, H0, F, ok, q⟩ => ⟨F0, H0, F, ok, fun vs F1 H1 g1 p1 => by
    obtain _ | ⟨q1, p2⟩ := p1
    obtain _ | ⟨q2, p3⟩ := p2
    cases p3
    have s : ∀ (p : Addr) (o : HO), H1 p = none → Same F1 (upd F1 p o) := fun p o hp => same_upd (none_of_same g1.sub hp)
    exact ⟨by show 2 ≤ sizeLine; decide, fun p hp => q _ (upd F1 p (.lst _)) _ (g1.trans (Gr.put g1.sub hp)) ⟨p, _, _, rfl, upd_same, c.mono (s p _ hp) q1, d.mono (s p _ hp) q2⟩⟩⟩
theorem ev_tup3 {x1} {f : Expr} {z : γ} (ha : EV X a Γ c x) (hb : EV X b Γ d y) (hf : EV X f Γ k z) (hs : starEach [a, b, f] X.env = (false, eval a X.env) :: starEach [b, f] X.env := by rfl) (hs2 : starEach [b, f] X.env = (false, eval b X.env) :: starEach [f] X.env := by rfl)
    (hs3 : starEach [f] X.env = [(false, eval f X.env)] := by rfl) : EV X (.Tuple [a, b, f] x1 pos) Γ (r3 c d k) (x, y, z) :=
  PE.imp (pe_tup (ea_cons ha (ea_cons hb (ea1 hf hs3) hs2) hs)) fun σ H Q ⟨F0, H0, F, ok, q⟩ => ⟨F0, H0, F, ok, fun vs F1 H1 g1 p1 => by
    obtain _ | ⟨q1, p2⟩ := p1
    obtain _ | ⟨q2, p3⟩ := p2
    obtain _ | ⟨q3, p4⟩ := p3
    cases p4
    have s : ∀ (p : Addr) (o : HO), H1 p = none → Same F1 (upd F1 p o) := fun p o hp => same_upd (none_of_same g1.sub hp)
    exact ⟨by show 3 ≤ sizeLine; decide, fun p hp => q _ (upd F1 p (.tup _)) _ (g1.trans (Gr.put g1.sub hp)) ⟨p, _, _, _, rfl, SqT.of upd_same, c.mono (s p _ hp) q1, d.mono (s p _ hp) q2, k.mono (s p _ hp) q3⟩⟩⟩
theorem ev_lst3 {f : Expr} {z : γ} (ha : EV X a Γ c x) (hb : EV X b Γ d y) (hf : EV X f Γ k z) (hs : starEach [a, b, f] X.env = (false, eval a X.env) :: starEach [b, f] X.env := by rfl) (hs2 : starEach [b, f] X.env = (false, eval b X.env) :: starEach [f] X.env := by rfl)
    (hs3 : starEach [f] X.env = [(false, eval f X.env)] := by rfl) : EV X (.List [a, b, f] pos) Γ (rL3 c d k) (x, y, z) :=
  PE.imp (pe_lst (ea_cons ha (ea_cons hb (ea1 hf hs3) hs2) hs)) fun σ H Q ⟨F0, H0, F, ok, q⟩ => ⟨F0, H0, F, ok, fun vs F1 H1 g1 p1 => by
    obtain _ | ⟨q1, p2⟩ := p1
    obtain _ | ⟨q2, p3⟩ := p2
    obtain _ | ⟨q3, p4⟩ := p3
    cases p4
    have s : ∀ (p : Addr) (o : HO), H1 p = none → Same F1 (upd F1 p o) := fun p o hp => same_upd (none_of_same g1.sub hp)
    exact ⟨by show 3 ≤ sizeLine; decide, fun p hp => q _ (upd F1 p (.lst _)) _ (g1.trans (Gr.put g1.sub hp)) ⟨p, _, _, _, rfl, upd_same, c.mono (s p _ hp) q1, d.mono (s p _ hp) q2, k.mono (s p _ hp) q3⟩⟩⟩
end
end Z

set_option Elab.async false
set_option linter.all false
set_option maxRecDepth 100000
set_option maxHeartbeats 4000000
/-! Zed: subscripts, built-ins, iterables, comprehensions. -/
namespace Z
open PySem PySem.Spec PyProof.Rows L2

section
variable {X : Cx} {Γ : List Sl} {a b e : Expr} {es : List Expr} {pos p : Pos} {α β γ : Type} {c : Rp α} {d : Rp β} {k : Rp γ} {x : α} {y : β} {P P' : VP}

/-! ### subscripts -/
theorem atI_nat' {α : Type} {xs : List α} {i : Int} {n : Nat} {y : α} (e : i = n) (h : xs[n]? = some y) : atI xs i = some y := by
  subst e
  exact atI_nat h
theorem atI_neg1 {α : Type} {xs : List α} {y : α} (h : xs.getLast? = some y) : atI xs (-1) = some y := by
  obtain ⟨ys, rfl⟩ := List.getLast?_eq_some_iff.mp h
  exact atI_last ys y
theorem atI_paired {R : V → α → Prop} {vs : List V} {xs : List α} {i : Int} {y : α} (p : Paired R vs xs) (h : atI xs i = some y) : ∃ v, atI vs i = some v ∧ R v y := by
  unfold atI at h ⊢
  rw [Paired.length p]
  cases e : ixN xs.length i with
  | none =>
    rw [e] at h
    cases h
  | some j =>
    rw [e] at h
    obtain ⟨v, h1, h2⟩ := Paired.get p (i := j) (y := y) h
    exact ⟨v, h1, h2⟩
theorem ev_ixL {xs : List α} {i : Int} (ha : EL X a Γ c xs) (hb : EV X b Γ rInt i) (h : atI xs i = some x) (hs : PlainIx b := by intro _ _; rfl) : EV X (.Subscript a b pos) Γ c x :=
  ez_bin (pe_ix ix_list ha hb hs) fun F H v w Q s ⟨l, vs, e, hl, pl⟩ h2 z => by
    obtain ⟨u, h3, h4⟩ := atI_paired pl h
    exact ⟨l, vs, i, u, e, h2, hl, h3, z u F H (Gr.refl s) h4⟩
theorem ev_ixT {xs : List α} {i : Int} (ha : EV X a Γ (rT c) xs) (hb : EV X b Γ rInt i) (h : atI xs i = some x) (hs : PlainIx b := by intro _ _; rfl) : EV X (.Subscript a b pos) Γ c x :=
  ez_bin (pe_ix ix_tup ha hb hs) fun F H v w Q s ⟨l, vs, e, hl, pl⟩ h2 z => by
    obtain ⟨u, h3, h4⟩ := atI_paired pl h
    exact ⟨l, vs, i, u, e, h2, SqT.same s hl, h3, z u F H (Gr.refl s) h4⟩
theorem ev_ixS {l : List Nat} {i : Int} {m : Nat} (ha : EV X a Γ rTx l) (hb : EV X b Γ rInt i) (h : atI l i = some m) (hz : l.length ≤ 16777216) (hs : PlainIx b := by intro _ _; rfl) : EV X (.Subscript a b pos) Γ rTx [m] :=
  ez_bin (pe_ix ix_str ha hb hs) fun F H v w Q s h1 h2 z => ⟨tx l, i, m, h1, h2, by rw [tx_len, sizeLine_eq]; exact hz, by rw [tx_toList]; exact h, z _ F H (Gr.refl s) rfl⟩
/-- tuples and lists of fixed form, by written places -/
theorem ev_fst2 {j pb} (ha : EV X a Γ (r2 c d) (x, y)) : EV X (.Subscript a (.Constant (.int 0) j pb) pos) Γ c x :=
  ez_bin (pe_ix ix_tup ha ev_int (fun _ _ => rfl)) fun F H v w Q s ⟨l, v1, v2, e, hl, q1, q2⟩ h2 z => ⟨l, [v1, v2], 0, v1, e, h2, SqT.same s hl, rfl, z _ F H (Gr.refl s) q1⟩
theorem ev_snd2 {j pb} (ha : EV X a Γ (r2 c d) (x, y)) : EV X (.Subscript a (.Constant (.int 1) j pb) pos) Γ d y :=
  ez_bin (pe_ix ix_tup ha ev_int (fun _ _ => rfl)) fun F H v w Q s ⟨l, v1, v2, e, hl, q1, q2⟩ h2 z => ⟨l, [v1, v2], 1, v2, e, h2, SqT.same s hl, rfl, z _ F H (Gr.refl s) q2⟩
theorem ev_fstL2 {j pb} (ha : EV X a Γ (rL2 c d) (x, y)) : EV X (.Subscript a (.Constant (.int 0) j pb) pos) Γ c x :=
  ez_bin (pe_ix ix_list ha ev_int (fun _ _ => rfl)) fun F H v w Q s ⟨l, v1, v2, e, hl, q1, q2⟩ h2 z => ⟨l, [v1, v2], 0, v1, e, h2, SqL.of (s _ _ hl), rfl, z _ F H (Gr.refl s) q1⟩
theorem ev_sndL2 {j pb} (ha : EV X a Γ (rL2 c d) (x, y)) : EV X (.Subscript a (.Constant (.int 1) j pb) pos) Γ d y :=
  ez_bin (pe_ix ix_list ha ev_int (fun _ _ => rfl)) fun F H v w Q s ⟨l, v1, v2, e, hl, q1, q2⟩ h2 z => ⟨l, [v1, v2], 1, v2, e, h2, SqL.of (s _ _ hl), rfl, z _ F H (Gr.refl s) q2⟩
theorem ev_i3 {z : γ} {j pb} (ha : EV X a Γ (r3 c d k) (x, y, z)) : EV X (.Subscript a (.Constant (.int 0) j pb) pos) Γ c x :=
  ez_bin (pe_ix ix_tup ha ev_int (fun _ _ => rfl)) fun F H v w Q s ⟨l, v1, v2, v3, e, hl, q1, q2, q3⟩ h2 z => ⟨l, [v1, v2, v3], 0, v1, e, h2, SqT.same s hl, rfl, z _ F H (Gr.refl s) q1⟩
theorem ev_j3 {z : γ} {j pb} (ha : EV X a Γ (r3 c d k) (x, y, z)) : EV X (.Subscript a (.Constant (.int 1) j pb) pos) Γ d y :=
  ez_bin (pe_ix ix_tup ha ev_int (fun _ _ => rfl)) fun F H v w Q s ⟨l, v1, v2, v3, e, hl, q1, q2, q3⟩ h2 z => ⟨l, [v1, v2, v3], 1, v2, e, h2, SqT.same s hl, rfl, z _ F H (Gr.refl s) q2⟩
theorem ev_k3 {z : γ} {j pb} (ha : EV X a Γ (r3 c d k) (x, y, z)) : EV X (.Subscript a (.Constant (.int 2) j pb) pos) Γ k z :=
  ez_bin (pe_ix ix_tup ha ev_int (fun _ _ => rfl)) fun F H v w Q s ⟨l, v1, v2, v3, e, hl, q1, q2, q3⟩ h2 z => ⟨l, [v1, v2, v3], 2, v3, e, h2, SqT.same s hl, rfl, z _ F H (Gr.refl s) q3⟩
theorem ev_iL3 {z : γ} {j pb} (ha : EV X a Γ (rL3 c d k) (x, y, z)) : EV X (.Subscript a (.Constant (.int 0) j pb) pos) Γ c x :=
  ez_bin (pe_ix ix_list ha ev_int (fun _ _ => rfl)) fun F H v w Q s ⟨l, v1, v2, v3, e, hl, q1, q2, q3⟩ h2 z => ⟨l, [v1, v2, v3], 0, v1, e, h2, SqL.of (s _ _ hl), rfl, z _ F H (Gr.refl s) q1⟩
theorem ev_jL3 {z : γ} {j pb} (ha : EV X a Γ (rL3 c d k) (x, y, z)) : EV X (.Subscript a (.Constant (.int 1) j pb) pos) Γ d y :=
  ez_bin (pe_ix ix_list ha ev_int (fun _ _ => rfl)) fun F H v w Q s ⟨l, v1, v2, v3, e, hl, q1, q2, q3⟩ h2 z => ⟨l, [v1, v2, v3], 1, v2, e, h2, SqL.of (s _ _ hl), rfl, z _ F H (Gr.refl s) q2⟩
theorem ev_kL3 {z : γ} {j pb} (ha : EV X a Γ (rL3 c d k) (x, y, z)) : EV X (.Subscript a (.Constant (.int 2) j pb) pos) Γ k z :=
  ez_bin (pe_ix ix_list ha ev_int (fun _ _ => rfl)) fun F H v w Q s ⟨l, v1, v2, v3, e, hl, q1, q2, q3⟩ h2 z => ⟨l, [v1, v2, v3], 2, v3, e, h2, SqL.of (s _ _ hl), rfl, z _ F H (Gr.refl s) q3⟩

/-! ### slices -/
def optI : Option Nat → Option Int
  | none => none
  | some n => some (n : Int)
def tPO (K : Frag) (Γ : List Sl) (o : Option Nat) : TO := fun σ H Q => ∃ F0 H0 F, Ok K F0 H0 F H σ Γ ∧ ∀ F' H', Gr F H F' H' → Q (optI o) H'
theorem so_none : PO X none (tPO X.K Γ none) := PO.imp po_none fun σ H Q ⟨F0, H0, F, ok, q⟩ => q F H (Gr.refl ok.sub)
theorem so {i : Int} (n : Nat) (h : EV X e Γ rInt i) (hi : i = n := by rfl) : PO X (some e) (tPO X.K Γ (some n)) :=
  PO.imp (po_some h) fun σ H Q ⟨F0, H0, F, ok, q⟩ => ⟨F0, H0, F, ok, fun v F' H' g pv => ⟨i, pv, by rw [hi]; exact q F' H' g⟩⟩
/-- the items of l[lo:hi] -/
def cut {α : Type} (l : List α) (lo hi : Option Nat) : List α := (l.take (hi.getD l.length)).drop (lo.getD 0)
theorem cut_eq {α : Type} (l : List α) (lo hi : Option Nat) : (l.drop (HT.sIx l.length 0 (optI lo))).take (HT.sIx l.length l.length (optI hi) - HT.sIx l.length 0 (optI lo)) = cut l lo hi := by
  have h1 : HT.sIx l.length 0 (optI lo) = min (lo.getD 0) l.length := by
    cases lo with
    | none => simp [optI, HT.sIx_none]
    | some n => exact HT.sIx_nat _ _ _
  have h2 : HT.sIx l.length l.length (optI hi) = min (hi.getD l.length) l.length := by
    cases hi with
    | none => simp [optI, HT.sIx_none]
    | some n => exact HT.sIx_nat _ _ _
  rw [h1, h2]
  unfold cut
  generalize lo.getD 0 = i
  generalize hi.getD l.length = j
  rw [← List.drop_take]
  apply List.ext_getElem?
  intro m
  simp only [List.getElem?_drop, List.getElem?_take]
  by_cases hi : i ≤ l.length
  · have : min i l.length = i := by omega
    rw [this]
    by_cases q : i + m < min j l.length
    · rw [if_pos q, if_pos (by omega)]
    · rw [if_neg q]
      by_cases q2 : i + m < j
      · rw [if_pos q2, List.getElem?_eq_none (by omega)]
      · rw [if_neg q2]
  · have e1 : l[i + m]? = none := List.getElem?_eq_none (by omega)
    rw [e1]
    have : min i l.length = l.length := by omega
    rw [this]
    have e2 : l[l.length + m]? = none := List.getElem?_eq_none (by omega)
    rw [e2]
    simp
theorem ev_cutS {l : List Nat} {lo hi : Option Expr} {i j : Option Nat} {p2 : Pos} (he : EV X e Γ rTx l) (hl : PO X lo (tPO X.K Γ i)) (hh : PO X hi (tPO X.K Γ j)) (hz : l.length ≤ 16777216) : EV X (.Subscript e (.Slice lo hi none p2) pos) Γ rTx (cut l i j) :=
  PE.imp (pe_slice sl_str he hl hh) fun σ H Q ⟨F0, H0, F, ok, q⟩ => ⟨F0, H0, F, ok, fun v F1 H1 g1 p1 => ⟨F0, H0, F1, ok.grow g1, fun F2 H2 g2 => ⟨F0, H0, F2, (ok.grow g1).grow g2, fun F3 H3 g3 =>
    ⟨tx l, p1, by rw [tx_len, sizeLine_eq]; exact hz, q _ F3 H3 ((g1.trans g2).trans g3) (by
      show V.str (cutS (tx l) (optI i) (optI j)) = V.str (tx (cut l i j))
      unfold cutS
      rw [tx_toList, tx_len, cut_eq]
      rfl)⟩⟩⟩⟩
theorem Paired.cut {R : V → α → Prop} {vs : List V} {xs : List α} (pl : Paired R vs xs) (i j : Option Nat) : Paired R (cutV vs (optI i) (optI j)) (cut xs i j) := by
  unfold cutV
  rw [cut_eq vs i j]
  unfold Z.cut
  rw [Paired.length pl]
  exact Paired.drop _ (Paired.take _ pl)
theorem ev_cutT {l : List α} {lo hi : Option Expr} {i j : Option Nat} {p2 : Pos} (he : EV X e Γ (rT c) l) (hl : PO X lo (tPO X.K Γ i)) (hh : PO X hi (tPO X.K Γ j)) : EV X (.Subscript e (.Slice lo hi none p2) pos) Γ (rT c) (cut l i j) :=
  PE.imp (pe_slice sl_tupA he hl hh) fun σ H Q ⟨F0, H0, F, ok, q⟩ => ⟨F0, H0, F, ok, fun v F1 H1 g1 ⟨t, vs, ev, ht, pl⟩ => ⟨F0, H0, F1, ok.grow g1, fun F2 H2 g2 => ⟨F0, H0, F2, (ok.grow g1).grow g2, fun F3 H3 g3 => by
    have gg := (g1.trans g2).trans g3
    have s3 : Same F1 F3 := g2.ff.trans g3.ff
    have pl3 := PL.mono s3 pl
    have pc := Paired.cut pl3 i j
    refine ⟨t, vs, ev, SqT.same (s3.trans g3.sub) ht, fun w => ?_, fun w q0 hq0 => ?_⟩
    · refine q _ F3 H3 gg ⟨t, vs, rfl, SqT.same s3 ht, ?_⟩
      have : cutV vs (optI i) (optI j) = vs := by
        unfold cutV
        rw [w.1, w.2]
        simp
      rw [this] at pc
      exact pc
    · exact q _ (upd F3 q0 (.tup (cutV vs (optI i) (optI j)))) _ (gg.trans (Gr.put g3.sub hq0)) ⟨q0, _, rfl, SqT.of upd_same, PL.mono (same_upd (none_of_same g3.sub hq0)) pc⟩⟩⟩⟩
theorem eo_cutL {l : List α} {lo hi : Option Expr} {i j : Option Nat} {p2 : Pos} (he : EL X e Γ c l) (hl : PO X lo (tPO X.K Γ i)) (hh : PO X hi (tPO X.K Γ j)) : EO X (.Subscript e (.Slice lo hi none p2) pos) Γ (.ol c (cut l i j)) :=
  PE.imp (pe_slice sl_list he hl hh) fun σ H Q ⟨F0, H0, F, ok, q⟩ => ⟨F0, H0, F, ok, fun v F1 H1 g1 ⟨t, vs, ev, ht, pl⟩ => ⟨F0, H0, F1, ok.grow g1, fun F2 H2 g2 => ⟨F0, H0, F2, (ok.grow g1).grow g2, fun F3 H3 g3 => by
    have gg := (g1.trans g2).trans g3
    have s3 : Same F1 F3 := g2.ff.trans g3.ff
    have pc := Paired.cut (PL.mono s3 pl) i j
    exact ⟨t, vs, ev, (g2.hh.trans g3.hh).seq ht, fun q0 hq0 => q q0 _ F3 _ (gg.trans (Gr.hold g3.sub hq0)) (none_of_same g3.sub hq0) (none_of_same gg.hh hq0) upd_same ⟨_, rfl, pc⟩⟩⟩⟩⟩

/-! ### built-ins -/
theorem ez_b1 {n : Str} {id : String} {r : List V → Hp → VK → Prop} {P1 P3 : VP} (hc : CallR X (.builtin id) r) (hm : X.mg n = none) (hv : bootBuiltins n = some (.builtin id)) (ha : Ez X a Γ P1)
    (q : ∀ F H v (Q : VK), Same F H → P1.p X.K F H v → (∀ u F' H', Gr F H F' H' → P3.p X.K F' H' u → Q u H') → r [v] H Q)
    (hg : Gl X n := by rfl) (hn : n ≠ "__name__" := by decide) (hdb : (n == ("__debug__" : Str)) = false := by decide) (hs : starEach [a] X.env = [(false, eval a X.env)] := by rfl) : Ez X (.Call (.Name n p) [a] [] pos) Γ P3 :=
  PE.imp (pe_callB hc hg hm hv (ea1 ha hs) hn hdb hs rfl) fun σ H Q ⟨F0, H0, F, ok, z⟩ => ⟨F0, H0, F, ok, fun vs F' H' g pa => by
    obtain _ | ⟨p1, p2⟩ := pa
    cases p2
    exact q F' H' _ Q g.sub p1 fun u F2 H2 g2 p3 => z u F2 H2 (g.trans g2) p3⟩
theorem eo_b1 {n : Str} {id : String} {r : List V → Hp → VK → Prop} {P1 : VP} {s : Sl} (hc : CallR X (.builtin id) r) (hm : X.mg n = none) (hv : bootBuiltins n = some (.builtin id)) (ha : Ez X a Γ P1)
    (q : ∀ F H v (Q : VK), Same F H → P1.p X.K F H v → (∀ l ho F' H', Gr F H F' H' → F' l = none → H l = none → H' l = some ho → celO X.K F' s ho → Q (.ref l) H') → r [v] H Q)
    (hg : Gl X n := by rfl) (hn : n ≠ "__name__" := by decide) (hdb : (n == ("__debug__" : Str)) = false := by decide) (hs : starEach [a] X.env = [(false, eval a X.env)] := by rfl) : EO X (.Call (.Name n p) [a] [] pos) Γ s :=
  PE.imp (pe_callB hc hg hm hv (ea1 ha hs) hn hdb hs rfl) fun σ H Q ⟨F0, H0, F, ok, z⟩ => ⟨F0, H0, F, ok, fun vs F' H' g pa => by
    obtain _ | ⟨p1, p2⟩ := pa
    cases p2
    exact q F' H' _ Q g.sub p1 fun l ho F2 H2 g2 hF hl hH p3 => z l ho F2 H2 (g.trans g2) hF (none_of_same g.hh hl) hH p3⟩
theorem ez_t1 {n : Str} {id : String} {r : List V → Hp → VK → Prop} {P1 P3 : VP} (hc : CallR X (.type id) r) (hm : X.mg n = none) (hv : bootBuiltins n = some (.type id)) (ha : Ez X a Γ P1)
    (q : ∀ F H v (Q : VK), Same F H → P1.p X.K F H v → (∀ u F' H', Gr F H F' H' → P3.p X.K F' H' u → Q u H') → r [v] H Q)
    (hg : Gl X n := by rfl) (hn : n ≠ "__name__" := by decide) (hdb : (n == ("__debug__" : Str)) = false := by decide) (hs : starEach [a] X.env = [(false, eval a X.env)] := by rfl) : Ez X (.Call (.Name n p) [a] [] pos) Γ P3 :=
  PE.imp (pe_callTy hc hg hm hv (ea1 ha hs) hn hdb hs rfl) fun σ H Q ⟨F0, H0, F, ok, z⟩ => ⟨F0, H0, F, ok, fun vs F' H' g pa => by
    obtain _ | ⟨p1, p2⟩ := pa
    cases p2
    exact q F' H' _ Q g.sub p1 fun u F2 H2 g2 p3 => z u F2 H2 (g.trans g2) p3⟩
theorem eo_t1 {n : Str} {id : String} {r : List V → Hp → VK → Prop} {P1 : VP} {s : Sl} (hc : CallR X (.type id) r) (hm : X.mg n = none) (hv : bootBuiltins n = some (.type id)) (ha : Ez X a Γ P1)
    (q : ∀ F H v (Q : VK), Same F H → P1.p X.K F H v → (∀ l ho F' H', Gr F H F' H' → F' l = none → H l = none → H' l = some ho → celO X.K F' s ho → Q (.ref l) H') → r [v] H Q)
    (hg : Gl X n := by rfl) (hn : n ≠ "__name__" := by decide) (hdb : (n == ("__debug__" : Str)) = false := by decide) (hs : starEach [a] X.env = [(false, eval a X.env)] := by rfl) : EO X (.Call (.Name n p) [a] [] pos) Γ s :=
  PE.imp (pe_callTy hc hg hm hv (ea1 ha hs) hn hdb hs rfl) fun σ H Q ⟨F0, H0, F, ok, z⟩ => ⟨F0, H0, F, ok, fun vs F' H' g pa => by
    obtain _ | ⟨p1, p2⟩ := pa
    cases p2
    exact q F' H' _ Q g.sub p1 fun l ho F2 H2 g2 hF hl hH p3 => z l ho F2 H2 (g.trans g2) hF (none_of_same g.hh hl) hH p3⟩
theorem ez_b2 {n : Str} {id : String} {r : List V → Hp → VK → Prop} {P1 P2 P3 : VP} (hc : CallR X (.builtin id) r) (hm : X.mg n = none) (hv : bootBuiltins n = some (.builtin id)) (ha : Ez X a Γ P1) (hb : Ez X b Γ P2)
    (q : ∀ F H v w (Q : VK), Same F H → P1.p X.K F H v → P2.p X.K F H w → (∀ u F' H', Gr F H F' H' → P3.p X.K F' H' u → Q u H') → r [v, w] H Q)
    (hg : Gl X n := by rfl) (hn : n ≠ "__name__" := by decide) (hdb : (n == ("__debug__" : Str)) = false := by decide) (hs : starEach [a, b] X.env = (false, eval a X.env) :: starEach [b] X.env := by rfl) (hs2 : starEach [b] X.env = [(false, eval b X.env)] := by rfl)
    (hpl : (backTo pos (starEach [b] X.env)).any (·.1) = false := by rfl) : Ez X (.Call (.Name n p) [a, b] [] pos) Γ P3 :=
  PE.imp (pe_callB hc hg hm hv (ea_cons ha (ea1 hb hs2) hs) hn hdb hs hpl) fun σ H Q ⟨F0, H0, F, ok, z⟩ => ⟨F0, H0, F, ok, fun vs F' H' g pa => by
    obtain _ | ⟨p1, p2⟩ := pa
    obtain _ | ⟨p2, p3⟩ := p2
    cases p3
    exact q F' H' _ _ Q g.sub p1 p2 fun u F2 H2 g2 p3 => z u F2 H2 (g.trans g2) p3⟩

theorem ev_lenL {xs : List α} (hm : X.mg "len" = none) (ha : EL X a Γ c xs) (hg : Gl X "len" := by rfl) (hs : starEach [a] X.env = [(false, eval a X.env)] := by rfl) : EV X (.Call (.Name "len" p) [a] [] pos) Γ rInt xs.length :=
  ez_b1 call_len_seq hm boot_len ha (fun F H v Q s ⟨l, vs, e, hl, pl⟩ z => ⟨l, vs, by rw [e], .inl hl, by rw [Paired.length pl]; exact z _ F H (Gr.refl s) rfl⟩) hg (by decide) (by decide) hs
theorem ev_lenT {xs : List α} (hm : X.mg "len" = none) (ha : EV X a Γ (rT c) xs) (hg : Gl X "len" := by rfl) (hs : starEach [a] X.env = [(false, eval a X.env)] := by rfl) : EV X (.Call (.Name "len" p) [a] [] pos) Γ rInt xs.length :=
  ez_b1 call_len_seq hm boot_len ha (fun F H v Q s ⟨l, vs, e, hl, pl⟩ z => ⟨l, vs, by rw [e], .inr (SqT.same s hl), by rw [Paired.length pl]; exact z _ F H (Gr.refl s) rfl⟩) hg (by decide) (by decide) hs
theorem ev_lenS {l : List Nat} (hm : X.mg "len" = none) (ha : EV X a Γ rTx l) (hz : l.length ≤ 16777216) (hg : Gl X "len" := by rfl) (hs : starEach [a] X.env = [(false, eval a X.env)] := by rfl) : EV X (.Call (.Name "len" p) [a] [] pos) Γ rInt l.length :=
  ez_b1 call_len_str hm boot_len ha (fun F H v Q s h z => ⟨tx l, by rw [show v = _ from h], by rw [tx_len, sizeLine_eq]; exact hz, by rw [tx_len]; exact z _ F H (Gr.refl s) rfl⟩) hg (by decide) (by decide) hs
theorem ev_intI {i : Int} (hm : X.mg "int" = none) (ha : EV X a Γ rInt i) (hg : Gl X "int" := by rfl) (hs : starEach [a] X.env = [(false, eval a X.env)] := by rfl) : EV X (.Call (.Name "int" p) [a] [] pos) Γ rInt i :=
  ez_t1 call_int1 hm boot_int ha (fun F H v Q s h z => .inl ⟨i, by rw [show v = _ from h], z _ F H (Gr.refl s) rfl⟩) hg (by decide) (by decide) hs
theorem ev_abs {i : Int} (hm : X.mg "abs" = none) (ha : EV X a Γ rInt i) (hg : Gl X "abs" := by rfl) (hs : starEach [a] X.env = [(false, eval a X.env)] := by rfl) : EV X (.Call (.Name "abs" p) [a] [] pos) Γ rInt (i.natAbs : Int) :=
  ez_b1 call_abs hm (by decide +kernel) ha (fun F H v Q s h z => ⟨i, by rw [show v = _ from h], z _ F H (Gr.refl s) (by
    show V.int _ = V.int _
    congr 1
    split <;> omega)⟩) hg (by decide) (by decide) hs
theorem ev_max2 {i j : Int} (hc : X.calm = true) (hm : X.mg "max" = none) (ha : EV X a Γ rInt i) (hb : EV X b Γ rInt j) (hg : Gl X "max" := by rfl) (hs : starEach [a, b] X.env = (false, eval a X.env) :: starEach [b] X.env := by rfl) (hs2 : starEach [b] X.env = [(false, eval b X.env)] := by rfl)
    (hpl : (backTo pos (starEach [b] X.env)).any (·.1) = false := by rfl) : EV X (.Call (.Name "max" p) [a, b] [] pos) Γ rInt (max i j) :=
  ez_b2 (call_max2 hc) hm (by decide +kernel) ha hb (fun F H v w Q s h1 h2 z => ⟨i, j, by rw [show v = _ from h1, show w = _ from h2], z _ F H (Gr.refl s) (by
    show V.int _ = V.int _
    congr 1
    split <;> omega)⟩) hg (by decide) (by decide) hs hs2 hpl
theorem ev_min2 {i j : Int} (hc : X.calm = true) (hm : X.mg "min" = none) (ha : EV X a Γ rInt i) (hb : EV X b Γ rInt j) (hg : Gl X "min" := by rfl) (hs : starEach [a, b] X.env = (false, eval a X.env) :: starEach [b] X.env := by rfl) (hs2 : starEach [b] X.env = [(false, eval b X.env)] := by rfl)
    (hpl : (backTo pos (starEach [b] X.env)).any (·.1) = false := by rfl) : EV X (.Call (.Name "min" p) [a, b] [] pos) Γ rInt (min i j) :=
  ez_b2 (call_min2 hc) hm (by decide +kernel) ha hb (fun F H v w Q s h1 h2 z => ⟨i, j, by rw [show v = _ from h1, show w = _ from h2], z _ F H (Gr.refl s) (by
    show V.int _ = V.int _
    congr 1
    split <;> omega)⟩) hg (by decide) (by decide) hs hs2 hpl
theorem PL.ints {K : Frag} {F : Hp} {vs : List V} {ns : List Int} (h : PL rInt K F vs ns) : vs = ns.map V.int := Paired.map_eq (fun _ _ e => e) h
theorem PL.bls {K : Frag} {F : Hp} {vs : List V} {ns : List Bool} (h : PL rBool K F vs ns) : vs = ns.map V.bl := Paired.map_eq (fun _ _ e => e) h
theorem PL.txs {K : Frag} {F : Hp} {vs : List V} {ns : List (List Nat)} (h : PL rTx K F vs ns) : vs = (ns.map tx).map V.str := by
  rw [List.map_map]
  exact Paired.map_eq (fun _ _ e => e) h
theorem PL.of_ints {K : Frag} {F : Hp} (ns : List Int) : PL rInt K F (ns.map V.int) ns := Paired.of_map (f := V.int) (fun _ => rfl) ns
theorem PL.of_txs {K : Frag} {F : Hp} (ns : List (List Nat)) : PL rTx K F ((ns.map tx).map V.str) ns := by
  rw [List.map_map]
  exact Paired.of_map (f := V.str ∘ tx) (fun _ => rfl) ns
theorem ev_sum {ns : List Int} (hc : X.calm = true) (hm : X.mg "sum" = none) (ha : EL X a Γ rInt ns) (hg : Gl X "sum" := by rfl) (hs : starEach [a] X.env = [(false, eval a X.env)] := by rfl) : EV X (.Call (.Name "sum" p) [a] [] pos) Γ rInt ns.sum :=
  ez_b1 (cr_sum hc) hm (by decide +kernel) ha (fun F H v Q s ⟨l, vs, e, hl, pl⟩ z => ⟨l, ns, by rw [e], by rw [← PL.ints pl]; exact hl, z _ F H (Gr.refl s) rfl⟩) hg (by decide) (by decide) hs
/-- tuple(xs), list(xs) -/
theorem ev_tupL {xs : List α} (hm : X.mg "tuple" = none) (ha : EL X a Γ c xs) (hg : Gl X "tuple" := by rfl) (hs : starEach [a] X.env = [(false, eval a X.env)] := by rfl) : EV X (.Call (.Name "tuple" p) [a] [] pos) Γ (rT c) xs :=
  ez_t1 call_tuple_of hm (by decide +kernel) ha (fun F H v Q s ⟨l, vs, e, hl, pl⟩ z => ⟨l, vs, by rw [e], .inl ⟨hl, fun t ht => z _ (upd F t (.tup vs)) _ (Gr.put s ht) ⟨t, vs, rfl, SqT.of upd_same, PL.mono (same_upd (none_of_same s ht)) pl⟩⟩⟩) hg (by decide) (by decide) hs
theorem ev_tupT {xs : List α} (hm : X.mg "tuple" = none) (ha : EV X a Γ (rT c) xs) (hg : Gl X "tuple" := by rfl) (hs : starEach [a] X.env = [(false, eval a X.env)] := by rfl) : EV X (.Call (.Name "tuple" p) [a] [] pos) Γ (rT c) xs :=
  ez_t1 call_tuple_of hm (by decide +kernel) ha (fun F H v Q s ⟨l, vs, e, hl, pl⟩ z => ⟨l, vs, by rw [e], .inr ⟨SqT.same s hl, z _ F _ (Gr.refl s) ⟨l, vs, rfl, hl, pl⟩⟩⟩) hg (by decide) (by decide) hs
theorem eo_listL {xs : List α} (hm : X.mg "list" = none) (ha : EL X a Γ c xs) (hg : Gl X "list" := by rfl) (hs : starEach [a] X.env = [(false, eval a X.env)] := by rfl) : EO X (.Call (.Name "list" p) [a] [] pos) Γ (.ol c xs) :=
  eo_t1 call_list_of hm (by decide +kernel) ha (fun F H v Q s ⟨l, vs, e, hl, pl⟩ z => ⟨l, vs, by rw [e], .inl hl, fun t ht => z t _ F _ (Gr.hold s ht) (none_of_same s ht) ht upd_same ⟨vs, rfl, pl⟩⟩) hg (by decide) (by decide) hs
theorem eo_listT {xs : List α} (hm : X.mg "list" = none) (ha : EV X a Γ (rT c) xs) (hg : Gl X "list" := by rfl) (hs : starEach [a] X.env = [(false, eval a X.env)] := by rfl) : EO X (.Call (.Name "list" p) [a] [] pos) Γ (.ol c xs) :=
  eo_t1 call_list_of hm (by decide +kernel) ha (fun F H v Q s ⟨l, vs, e, hl, pl⟩ z => ⟨l, vs, by rw [e], .inr (SqT.same s hl), fun t ht => z t _ F _ (Gr.hold s ht) (none_of_same s ht) ht upd_same ⟨vs, rfl, pl⟩⟩) hg (by decide) (by decide) hs
/-- sorted -/
def srtT (l : List (List Nat)) : List (List Nat) := l.mergeSort fun a b => decide (a ≤ b)
theorem srtT_perm (l : List (List Nat)) : (srtT l).Perm l := List.mergeSort_perm _ _
theorem srtT_pw (l : List (List Nat)) : (srtT l).Pairwise (· ≤ ·) := by
  have h := List.pairwise_mergeSort (le := fun a b : List Nat => decide (a ≤ b)) (fun a b c h1 h2 => decide_eq_true (List.le_trans (of_decide_eq_true h1) (of_decide_eq_true h2)))
    (fun a b => by
      rcases List.le_total a b with h | h
      · simp [h]
      · simp [h]) l
  exact h.imp fun h => of_decide_eq_true h
theorem srtT_uniq {l m : List (List Nat)} (h : m.Perm l) (s : m.Pairwise (· ≤ ·)) : m = srtT l :=
  List.Perm.eq_of_pairwise (le := (· ≤ ·)) (fun _ _ _ _ h1 h2 => List.le_antisymm h1 h2) s (srtT_pw l) (h.trans (srtT_perm l).symm)
theorem srtT_of {l : List (List Nat)} (s : l.Pairwise (· ≤ ·)) : srtT l = l := (srtT_uniq (List.Perm.refl l) s).symm
theorem srtT_eq {l m : List (List Nat)} (h : l.Perm m) : srtT l = srtT m := srtT_uniq ((srtT_perm l).trans h) (srtT_pw l)
theorem srtT_len (l : List (List Nat)) : (srtT l).length = l.length := (srtT_perm l).length_eq
theorem srtT_mem {l : List (List Nat)} {x : List Nat} : x ∈ srtT l ↔ x ∈ l := (srtT_perm l).mem_iff
theorem ltCps_iff : ∀ (a b : List Nat), ltCps a b = decide (a < b)
  | [], [] => by simp [ltCps]
  | [], _ :: _ => by simp [ltCps]
  | _ :: _, [] => by simp [ltCps]
  | x :: xs, y :: ys => by
    have ih := ltCps_iff xs ys
    unfold ltCps
    rw [ih]
    simp only [List.cons_lt_cons_iff]
    by_cases h : x < y
    · simp [h]
    · by_cases e : x = y
      · subst e
        simp
      · simp [h, e]
theorem rising_pw : ∀ (xs : List (List Nat)) (q : List Nat), PyProof.Rows.risingS (tx q) (xs.map tx) = true → (q :: xs).Pairwise (· ≤ ·)
  | [], q, _ => by simp
  | x :: xs, q, h => by
    have h' : (!ltCps (tx x).cps.toList (tx q).cps.toList && PyProof.Rows.risingS (tx x) (xs.map tx)) = true := h
    rw [tx_toList, tx_toList, Bool.and_eq_true] at h'
    have ih := rising_pw xs x h'.2
    have le : q ≤ x := by
      have := h'.1
      rw [ltCps_iff] at this
      simpa using this
    refine List.pairwise_cons.mpr ⟨fun y hy => ?_, ih⟩
    rcases List.mem_cons.mp hy with e | hy
    · subst e
      exact le
    · exact List.le_trans le ((List.pairwise_cons.mp ih).1 y hy)
theorem sortedS_pw : ∀ {xs : List (List Nat)}, PyProof.Rows.sortedS (xs.map tx) = true → xs.Pairwise (· ≤ ·)
  | [], _ => .nil
  | x :: xs, h => rising_pw xs x h
theorem map_tx_of (ys : List Str) : (ys.map fun s => s.cps.toList).map tx = ys := by
  rw [List.map_map]
  have : (tx ∘ fun s : Str => s.cps.toList) = id := by
    funext s
    exact tx_of s
  rw [this, List.map_id]
theorem perm_of_tx {l m : List (List Nat)} (h : (l.map tx).Perm (m.map tx)) : l.Perm m := by
  have e := h.map fun s : Str => s.cps.toList
  rw [List.map_map, List.map_map] at e
  have : ((fun s : Str => s.cps.toList) ∘ tx) = id := by
    funext s
    exact tx_toList s
  rw [this, List.map_id, List.map_id] at e
  exact e
theorem eo_sortT {xs : List (List Nat)} (hm : X.mg "sorted" = none) (ha : EL X a Γ rTx xs) (hz : xs.length < 64) (hg : Gl X "sorted" := by rfl) (hs : starEach [a] X.env = [(false, eval a X.env)] := by rfl) : EO X (.Call (.Name "sorted" p) [a] [] pos) Γ (.ol rTx (srtT xs)) :=
  eo_b1 cr_sortedS hm (by decide +kernel) ha (fun F H v Q s ⟨l, vs, e, hl, pl⟩ z => ⟨l, xs.map tx, by rw [e], by rw [← PL.txs pl]; exact hl, by rw [List.length_map]; exact hz, fun ys t hp hs' ht => by
    have ey := map_tx_of ys
    generalize (ys.map fun s : Str => s.cps.toList) = zs at ey
    subst ey
    have := srtT_uniq (perm_of_tx hp) (sortedS_pw hs')
    subst this
    exact z t _ F _ (Gr.hold s ht) (none_of_same s ht) ht upd_same ⟨_, rfl, PL.of_txs _⟩⟩) hg (by decide) (by decide) hs
def srtI (l : List Int) : List Int := l.mergeSort fun a b => decide (a ≤ b)
theorem srtI_perm (l : List Int) : (srtI l).Perm l := List.mergeSort_perm _ _
theorem srtI_pw (l : List Int) : (srtI l).Pairwise (· ≤ ·) := by
  have h := List.pairwise_mergeSort (le := fun a b : Int => decide (a ≤ b)) (fun a b c h1 h2 => decide_eq_true (Int.le_trans (of_decide_eq_true h1) (of_decide_eq_true h2)))
    (fun a b => by
      rcases Int.le_total a b with h | h
      · simp [h]
      · simp [h]) l
  exact h.imp fun h => of_decide_eq_true h
theorem srtI_uniq {l m : List Int} (h : m.Perm l) (s : m.Pairwise (· ≤ ·)) : m = srtI l :=
  List.Perm.eq_of_pairwise (le := (· ≤ ·)) (fun _ _ _ _ h1 h2 => Int.le_antisymm h1 h2) s (srtI_pw l) (h.trans (srtI_perm l).symm)
theorem eo_sortI {xs : List Int} (hm : X.mg "sorted" = none) (ha : EL X a Γ rInt xs) (hg : Gl X "sorted" := by rfl) (hs : starEach [a] X.env = [(false, eval a X.env)] := by rfl) : EO X (.Call (.Name "sorted" p) [a] [] pos) Γ (.ol rInt (srtI xs)) :=
  eo_b1 cr_sortedI hm (by decide +kernel) ha (fun F H v Q s ⟨l, vs, e, hl, pl⟩ z => ⟨l, xs, by rw [e], by rw [← PL.ints pl]; exact hl, fun ys t hp hs' ht => by
    have := srtI_uniq hp hs'
    subst this
    exact z t _ F _ (Gr.hold s ht) (none_of_same s ht) ht upd_same ⟨_, rfl, PL.of_ints _⟩⟩) hg (by decide) (by decide) hs
/-- sep.join(list of texts) -/
def joinT (sep : List Nat) : List (List Nat) → List Nat
  | [] => []
  | [x] => x
  | x :: r => x ++ (sep ++ joinT sep r)
theorem join_tx (sep : List Nat) : ∀ xs : List (List Nat), Str.join (tx sep) (xs.map tx) = tx (joinT sep xs)
  | [] => rfl
  | [x] => rfl
  | x :: y :: r => by
    have ih := join_tx sep (y :: r)
    show tx x ++ tx sep ++ Str.join (tx sep) ((y :: r).map tx) = tx (x ++ (sep ++ joinT sep (y :: r)))
    rw [ih, tx_app, tx_app, List.append_assoc]
theorem joinT_nil : ∀ xs : List (List Nat), joinT [] xs = xs.flatten
  | [] => rfl
  | [x] => by simp [joinT]
  | x :: y :: r => by
    have ih := joinT_nil (y :: r)
    show x ++ ([] ++ joinT [] (y :: r)) = _
    rw [ih]
    simp
end
end Z

set_option Elab.async false
set_option linter.all false
set_option maxRecDepth 100000
set_option maxHeartbeats 4000000
/-! Zed: statements, loops, comprehensions, defs. -/
namespace Z
open PySem PySem.Spec PyProof.Rows L2

/-! ### what is walked -/
def YZ {α : Type} (K : Frag) (F1 : Hp) (c : Rp α) (xs : List α) : Nat → Hp → V → Hp → Prop := fun i H v H2 => ∀ F, Same F1 F → Same F H → ∃ F2 y, Gr F H F2 H2 ∧ xs[i]? = some y ∧ c.r K F2 v y
def tIT {α : Type} (K : Frag) (Γ : List Sl) (c : Rp α) (xs : List α) : TI := fun σ H R => ∃ F0 H0 F, Ok K F0 H0 F H σ Γ ∧ ∀ J F' H', Gr F H F' H' → Walk J xs.length (Same F') (YZ K F' c xs) → R J H'
abbrev IT (X : Cx) (tg e : Expr) (Γ : List Sl) {α : Type} (c : Rp α) (xs : List α) : Prop := PI X tg e (tIT X.K Γ c xs)
/-- a target: js the slots that it stores, g what becomes of the slots -/
def tGZ {α : Type} (K : Frag) (c : Rp α) (js : List Nat) (g : List Sl → α → List Sl) : TG := fun v σ H Q => ∃ F0 H0 F Γ y, Ok K F0 H0 F H σ Γ ∧ c.r K F v y ∧
  ∀ σ', Ok K F0 H0 F H σ' (g Γ y) → (σ'.length = σ.length ∧ ∀ i, i ∉ js → σ'[i]? = σ[i]?) → Q σ' H
abbrev GZ (X : Cx) (tg : Expr) {α : Type} (c : Rp α) (js : List Nat) (g : List Sl → α → List Sl) : Prop := PG X tg (tGZ X.K c js g)

section
variable {X : Cx} {Γ : List Sl} {a b e tg iter : Expr} {es : List Expr} {pos p : Pos} {α β γ : Type} {c : Rp α} {d : Rp β} {k : Rp γ} {x : α} {y : β} {xs : List α}
theorem YZ.at {K : Frag} {F1 : Hp} {vs : List V} (pl : PL c K F1 vs xs) {i : Nat} {H : Hp} {v : V} {H2 : Hp} (h : H2 = H ∧ vs[i]? = some v) : YZ K F1 c xs i H v H2 := fun F s1 s2 => by
  obtain ⟨e, hv⟩ := h
  subst e
  obtain ⟨y, h1, h2⟩ := Paired.getL pl hv
  exact ⟨F, y, Gr.refl s2, h1, c.mono s1 h2⟩
theorem it_L (h : EV X e Γ (rL c) xs) : IT X tg e Γ c xs :=
  PI.imp (pi_list h) fun σ H R ⟨F0, H0, F, ok, q⟩ => ⟨F0, H0, F, ok, fun v F' H' g ⟨l, vs, ev, hl, pl⟩ => ⟨l, ev, ⟨vs, SqL.of (g.sub _ _ hl)⟩, q _ F' H' g (by
    rw [← Paired.length pl]
    exact walk_list.mono (fun H2 s => SqL.of (s _ _ hl)) fun i H2 v H3 hi s h => YZ.at pl h)⟩⟩
theorem it_T (h : EV X e Γ (rT c) xs) : IT X tg e Γ c xs :=
  PI.imp (pi_tup h) fun σ H R ⟨F0, H0, F, ok, q⟩ => ⟨F0, H0, F, ok, fun v F' H' g ⟨l, vs, ev, hl, pl⟩ => ⟨l, ev, ⟨vs, SqT.same g.sub hl⟩, q _ F' H' g (by
    rw [← Paired.length pl]
    exact walk_tup.mono (fun H2 s => SqT.same s hl) fun i H2 v H3 hi s h => YZ.at pl h)⟩⟩
theorem it_scr {ns : List Int} (h : EV X e Γ rScr ns) : IT X tg e Γ rInt ns :=
  PI.imp (pi_list h) fun σ H R ⟨F0, H0, F, ok, q⟩ => ⟨F0, H0, F, ok, fun v F' H' g ⟨l, ev, hl⟩ => ⟨l, ev, ⟨_, g.sub.seq hl⟩, q _ F' H' g (by
    have pl := PL.of_ints (K := X.K) (F := F') ns
    rw [← Paired.length pl]
    exact walk_list.mono (fun H2 s => s.seq hl) fun i H2 v H3 hi s h => YZ.at pl h)⟩⟩
def rng (lo : Int) (n : Nat) : List Int := (List.range n).map fun (i : Nat) => lo + (i : Int)
theorem rng_len (lo : Int) (n : Nat) : (rng lo n).length = n := by simp [rng]
theorem rng_get {lo : Int} {n i : Nat} {x : Int} : (rng lo n)[i]? = some x ↔ i < n ∧ x = lo + i := by
  unfold rng
  rw [List.getElem?_map]
  by_cases h : i < n
  · rw [List.getElem?_range h]
    simp [h, eq_comm]
  · rw [List.getElem?_eq_none (by simpa using h)]
    simp [h]
theorem walk_rng {K : Frag} {F1 : Hp} {lo : Int} {n : Nat} : Walk (Itr lo n) (rng lo n).length (Same F1) (YZ K F1 rInt (rng lo n)) := by
  rw [rng_len]
  exact walk_range.mono (fun _ _ => trivial) fun i H v H2 hi s h F s1 s2 => by
    obtain ⟨e, hv⟩ := h
    subst e
    exact ⟨F, lo + i, Gr.refl s2, rng_get.mpr ⟨hi, rfl⟩, hv⟩
theorem it_range {i : Int} (n : Nat) (hm : X.mg "range" = none) (h : EV X a Γ rInt i) (hi : i = n) (hn : n < 2 ^ 62) (hg : Gl X "range" := by rfl) (hs : starEach [a] X.env = [(false, eval a X.env)] := by rfl) :
    IT X tg (.Call (.Name "range" p) [a] [] pos) Γ rInt (rng 0 n) :=
  PI.imp (pi_range1 hg hm (ea1 h hs) hs) fun σ H R ⟨F0, H0, F, ok, q⟩ => ⟨F0, H0, F, ok, fun vs F' H' g pa => by
    obtain _ | ⟨p1, p2⟩ := pa
    cases p2
    subst hi
    refine ⟨(n : Int), by rw [show _ = _ from p1], by omega, by omega, ?_⟩
    rw [Int.toNat_natCast]
    exact q _ F' H' g walk_rng⟩
theorem it_range2 {i j : Int} (hm : X.mg "range" = none) (ha : EV X a Γ rInt i) (hb : EV X b Γ rInt j) (hi : -(2 ^ 62) ≤ i ∧ i < 2 ^ 62 ∧ -(2 ^ 62) ≤ j ∧ j < 2 ^ 62) (hg : Gl X "range" := by rfl)
    (hs : starEach [a, b] X.env = [(false, eval a X.env), (false, eval b X.env)] := by rfl) (hs2 : starEach [b] X.env = [(false, eval b X.env)] := by rfl) :
    IT X tg (.Call (.Name "range" p) [a, b] [] pos) Γ rInt (rng i (j - i).toNat) :=
  PI.imp (pi_range2 hg hm (ea_cons ha (ea1 hb hs2) (by rw [hs, hs2])) hs hs2) fun σ H R ⟨F0, H0, F, ok, q⟩ => ⟨F0, H0, F, ok, fun vs F' H' g pa => by
    obtain _ | ⟨p1, p2⟩ := pa
    obtain _ | ⟨p2, p3⟩ := p2
    cases p3
    exact ⟨i, j, by rw [show _ = _ from p1, show _ = _ from p2], hi, q _ F' H' g walk_rng⟩⟩
theorem it_S {l : List Nat} (h : EV X e Γ rTx l) : IT X tg e Γ rTx (l.map fun ch => [ch]) :=
  PI.imp (pi_str h) fun σ H R ⟨F0, H0, F, ok, q⟩ => ⟨F0, H0, F, ok, fun v F' H' g hv => ⟨tx l, hv, q _ F' H' g (by
    have hz : (tx l).cps.size = (l.map fun ch => [ch]).length := by simp [tx]
    rw [← hz]
    refine walk_str.mono (fun _ _ => trivial) fun i H2 v H3 hi s h F s1 s2 => ?_
    obtain ⟨e, ch, hc, hv⟩ := h
    subst e
    refine ⟨F, [ch], Gr.refl s2, ?_, hv⟩
    have : l[i]? = some ch := by simpa [tx] using hc
    rw [List.getElem?_map, this]
    rfl)⟩⟩

/-! ### targets -/
theorem gz_name (i : Nat) {n : Str} (hN : X.N.Nodup) (hi : X.N[i]? = some n := by rfl) (hx : Loc X.env.scope n := by first | exact Or.inl rfl | exact Or.inr rfl)
    (hf : X.fn n = true ∨ X.env.scope.names.lookup n = some .local := by first | exact .inl rfl | exact .inr rfl) : GZ X (.Name n p) c [i] (fun Γ y => Γ.set i (.v c y)) :=
  PG.imp (pg_name hN hi hx hf) fun v σ H Q ⟨F0, H0, F, Γ, y, ok, r, q⟩ => q _ (ok.setV r) ⟨by simp, fun j hj => by
    rw [List.getElem?_set_ne]
    intro e
    exact hj (by simp [e])⟩
theorem gz_tup2 {t1 t2 : Expr} {x1} {js1 js2 : List Nat} {g1 : List Sl → α → List Sl} {g2 : List Sl → β → List Sl} (hc : X.calm = true) (h1 : GZ X t1 c js1 g1) (h2 : GZ X t2 d js2 g2)
    (hs1 : (assignEach [t1, t2] X.env).map (·.2) = assign t1 X.env :: (assignEach [t2] X.env).map (·.2) := by rfl) (hs2 : (assignEach [t2] X.env).map (·.2) = assign t2 X.env :: (assignEach [] X.env).map (·.2) := by rfl)
    (hn : (assignEach [t1, t2] X.env).length = 2 := by rfl) (hst : (assignEach [t1, t2] X.env).findIdx? (·.1) = none := by rfl) :
    GZ X (.Tuple [t1, t2] x1 p) (r2 c d) (js1 ++ js2) (fun Γ y => g2 (g1 Γ y.1) y.2) :=
  PG.imp (pg_tup hc (pgs_cons h1 (pgs_cons h2 pgs_nil hs2) hs1) hn hst) fun v σ H Q ⟨F0, H0, F, Γ, y, ok, ⟨t, v1, v2, ev, ht, q1, q2⟩, q⟩ =>
    ⟨t, [v1, v2], ev, SqT.same ok.sub ht, rfl, v1, [v2], rfl, F0, H0, F, Γ, y.1, ok, q1, fun σ1 ok1 e1 => ⟨v2, [], rfl, F0, H0, F, _, y.2, ok1, q2, fun σ2 ok2 e2 => ⟨rfl, q σ2 ok2 ⟨e2.1.trans e1.1, fun i hi => by
      rw [e2.2 i (fun z => hi (List.mem_append.mpr (.inr z))), e1.2 i (fun z => hi (List.mem_append.mpr (.inl z)))]⟩⟩⟩⟩
theorem gz_tup3 {t1 t2 t3 : Expr} {x1} {js1 js2 js3 : List Nat} {g1 : List Sl → α → List Sl} {g2 : List Sl → β → List Sl} {g3 : List Sl → γ → List Sl} (hc : X.calm = true) (h1 : GZ X t1 c js1 g1) (h2 : GZ X t2 d js2 g2) (h3 : GZ X t3 k js3 g3)
    (hs1 : (assignEach [t1, t2, t3] X.env).map (·.2) = assign t1 X.env :: (assignEach [t2, t3] X.env).map (·.2) := by rfl) (hs2 : (assignEach [t2, t3] X.env).map (·.2) = assign t2 X.env :: (assignEach [t3] X.env).map (·.2) := by rfl)
    (hs3 : (assignEach [t3] X.env).map (·.2) = assign t3 X.env :: (assignEach [] X.env).map (·.2) := by rfl)
    (hn : (assignEach [t1, t2, t3] X.env).length = 3 := by rfl) (hst : (assignEach [t1, t2, t3] X.env).findIdx? (·.1) = none := by rfl) :
    GZ X (.Tuple [t1, t2, t3] x1 p) (r3 c d k) (js1 ++ (js2 ++ js3)) (fun Γ y => g3 (g2 (g1 Γ y.1) y.2.1) y.2.2) :=
  PG.imp (pg_tup hc (pgs_cons h1 (pgs_cons h2 (pgs_cons h3 pgs_nil hs3) hs2) hs1) hn hst) fun v σ H Q ⟨F0, H0, F, Γ, y, ok, ⟨t, v1, v2, v3, ev, ht, q1, q2, q3⟩, q⟩ =>
    ⟨t, [v1, v2, v3], ev, SqT.same ok.sub ht, rfl, v1, [v2, v3], rfl, F0, H0, F, Γ, y.1, ok, q1, fun σ1 ok1 e1 => ⟨v2, [v3], rfl, F0, H0, F, _, y.2.1, ok1, q2, fun σ2 ok2 e2 => ⟨v3, [], rfl, F0, H0, F, _, y.2.2, ok2, q3, fun σ3 ok3 e3 => ⟨rfl, q σ3 ok3 ⟨e3.1.trans (e2.1.trans e1.1), fun i hi => by
      rw [e3.2 i (fun z => hi (List.mem_append.mpr (.inr (List.mem_append.mpr (.inr z))))), e2.2 i (fun z => hi (List.mem_append.mpr (.inr (List.mem_append.mpr (.inl z))))), e1.2 i (fun z => hi (List.mem_append.mpr (.inl z)))]⟩⟩⟩⟩⟩

/-! ### comprehensions -/
def wipeS (Γ : List Sl) : List Nat → List Sl
  | [] => Γ
  | v :: vs => (wipeS Γ vs).set v .un
theorem Ok.wipe {K : Frag} {F0 H0 F H : Hp} {σ : St} {Γ : List Sl} (ok : Ok K F0 H0 F H σ Γ) : ∀ vs : List Nat, Ok K F0 H0 F H (wipe σ vs) (wipeS Γ vs)
  | [] => ok
  | v :: vs => (ok.wipe vs).setAny rfl trivial
theorem wipe_eq {σ σ' : St} {vs js : List Nat} (hl : σ'.length = (wipe σ vs).length) (h : ∀ i, i ∉ js → σ'[i]? = (wipe σ vs)[i]?) (hj : ∀ i ∈ js, i ∈ vs) : wipe σ' vs = wipe σ vs := by
  have off : ∀ (τ : St) (us : List Nat) (i : Nat), i ∉ us → (wipe τ us)[i]? = τ[i]? := by
    intro τ us
    induction us with
    | nil => intro i _; rfl
    | cons u us ih =>
      intro i hi
      simp only [List.mem_cons, not_or] at hi
      show ((wipe τ us).set u none)[i]? = _
      rw [List.getElem?_set_ne (Ne.symm hi.1), ih i hi.2]
  have on : ∀ (τ : St) (us : List Nat) (i : Nat), i ∈ us → i < τ.length → (wipe τ us)[i]? = some none := by
    intro τ us
    induction us with
    | nil => intro i hi; cases hi
    | cons u us ih =>
      intro i hi hl
      show ((wipe τ us).set u none)[i]? = _
      by_cases e : u = i
      · subst e
        rw [List.getElem?_set_self (by rw [wipe_length]; exact hl)]
      · rw [List.getElem?_set_ne e]
        rcases List.mem_cons.mp hi with z | z
        · exact absurd z.symm e
        · exact ih i z hl
  have hlen : σ'.length = σ.length := by rw [hl, wipe_length]
  apply List.ext_getElem?
  intro i
  by_cases hi : i ∈ vs
  · by_cases hb : i < σ.length
    · rw [on σ' vs i hi (by omega), on σ vs i hi hb]
    · rw [List.getElem?_eq_none (by rw [wipe_length]; omega), List.getElem?_eq_none (by rw [wipe_length]; omega)]
  · rw [off σ' vs i hi, off σ vs i hi, h i (fun z => hi (hj i z)), off σ vs i hi]
abbrev Blk (X : Cx) (scope : Scope) (s : Shared) (H : Hp) (C : Addr) (cl : List (Str × Addr)) (fp : List Addr) : Cx := X.blk s H scope (compEnvC scope cl C X.env) fp
abbrev EBs (X : Cx) (ifs : List Expr) (Γ : List Sl) (b : Bool) : Prop := PTs X ifs (tEB X.K Γ b)
theorem ebs_nil : EBs X [] Γ true := PTs.imp pts_nil fun σ H Q ⟨F0, H0, F, ok, q⟩ => q F H (Gr.refl ok.sub)
theorem ebs1 {q : Bool} (h : EB X e Γ q) : EBs X [e] Γ q := pts_one h
theorem take_filter_succ {p : α → Bool} {f : α → β} {i : Nat} {y : α} (h : xs[i]? = some y) : ((xs.take (i + 1)).filter p).map f = ((xs.take i).filter p).map f ++ (if p y = true then [f y] else []) := by
  have hi : i < xs.length := (List.getElem?_eq_some_iff.mp h).1
  have e : xs[i] = y := (List.getElem?_eq_some_iff.mp h).2
  rw [List.take_succ_eq_append_getElem hi, List.filter_append, List.map_append, e]
  congr 1
  by_cases q : p y = true
  · simp [q]
  · simp [q]
def ttZ (K : Frag) (c : Rp α) (js vs : List Nat) (g : List Sl → α → List Sl) (Γ : List Sl) (xs : List α) (pp : α → Bool) : TT := fun σ H Q => ∃ y, y ∈ xs ∧ tEB K (g (wipeS Γ vs) y) (pp y) σ H Q
def teZ (K : Frag) (d : Rp β) (vs : List Nat) (g : List Sl → α → List Sl) (Γ : List Sl) (xs : List α) (pp : α → Bool) (f : α → β) : TE := fun σ H Q => ∃ y, y ∈ xs ∧ pp y = true ∧ tE K (g (wipeS Γ vs) y) (vv d (f y)) σ H Q
theorem tlc_of {K : Frag} {js ws : List Nat} {g : List Sl → α → List Sl} {pp : α → Bool} {f : α → β} {d : Rp β} (hj : ∀ i ∈ js, i ∈ ws) (hz : xs.length ≤ 16777216) {σ : St} {H : Hp} {Q : VK} (h : tEO K Γ (.ol d ((xs.filter pp).map f)) σ H Q) :
    tLc (tIT K Γ c xs) (tGZ K c js g) (ttZ K c js ws g Γ xs pp) (teZ K d ws g Γ xs pp f) ws σ H Q := by
  obtain ⟨F0, H0, F, okk, q⟩ := h
  refine ⟨F0, H0, F, okk, fun J F1 H1 g1 wk D hD => ?_⟩
  have ok1 := okk.grow g1
  refine lc_it (g := tGZ K c js g) (tt := ttZ K c js ws g Γ xs pp)
    (te := teZ K d ws g Γ xs pp f) (vs := ws) (σ := σ) (Qd := fun H' => Q (.ref D) H') wk (fun i H' => ∃ F' vs, Gr F1 H1 F' H' ∧ F' D = none ∧ H' D = some (.lst vs) ∧ PL d K F' vs (((xs.take i).filter pp).map f))
    ⟨F1, [], Gr.hold g1.sub hD, none_of_same g1.sub hD, upd_same, by simpa using .nil⟩ (fun i H' _ ⟨F', vs, gg, _⟩ => gg.ff.trans gg.sub) (fun i v H' H2 hlt ⟨F', vs, gg, fD, hD', pl⟩ yz => ?_) fun H' ⟨F', vs, gg, fD, hD', pl⟩ => ?_
  · obtain ⟨F2, y, g2, hy, ry⟩ := yz F' gg.ff gg.sub
    have okw := (ok1.grow (gg.trans g2)).wipe ws
    have hm : y ∈ xs := List.mem_of_getElem? hy
    have st := take_filter_succ (p := pp) (f := f) hy
    refine ⟨F0, H0, F2, _, y, okw, ry, fun σ2 ok2 e2 => ⟨wipe_eq e2.1 e2.2 hj, y, hm, F0, H0, F2, ok2, fun F3 H3 g3 => ?_⟩⟩
    have g23 := g2.trans g3
    dsimp only
    by_cases hp : pp y = true
    · rw [if_pos hp]
      rw [if_pos hp] at st
      refine ⟨y, hm, hp, F0, H0, F3, ok2.grow g3, fun u F4 H4 g4 r4 => ?_⟩
      have g24 := g23.trans g4
      have hD4 : H4 D = some (.lst vs) := g24.hh _ _ hD'
      have fD4 : F4 D = none := g24.none fD hD'
      refine ⟨vs, hD4, ?_, F4, vs ++ [u], ?_, fD4, upd_same, ?_⟩
      · have l1 := Paired.length pl
        have l2 : (((xs.take i).filter pp).map f).length ≤ i := by
          rw [List.length_map]
          exact Nat.le_trans (List.length_filter_le _ _) (by rw [List.length_take]; omega)
        rw [sizeLine_eq]
        omega
      · have ga := gg.trans g24
        exact ⟨same_upd2 ga.hh hD, ga.ff, same_upd2 ga.sub fD4, ga.new⟩
      · rw [st]
        exact Paired.append (PL.mono g24.ff pl) (.cons r4 .nil)
    · rw [if_neg hp]
      rw [if_neg hp, List.append_nil] at st
      exact ⟨F3, vs, gg.trans g23, g23.none fD hD', g23.hh _ _ hD', by rw [st]; exact PL.mono g23.ff pl⟩
  · rw [List.take_length] at pl
    exact q D _ F' H' (g1.trans gg) fD (none_of_same g1.hh hD) hD' ⟨vs, rfl, pl⟩
theorem eo_lc {elt : Expr} {ifs : List Expr} {scope : Scope} {own : List (Str × Nat)} {js : List Nat} {g : List Sl → α → List Sl} (pp : α → Bool) (f : α → β)
    (hN : X.N.Nodup) (hi : IT X tg iter Γ c xs) (ok : BlkOk X.N X.env.scope scope own)
    (hg : ∀ s H C cl fp, GZ (Blk X scope s H C cl fp) tg c js g) (hj : ∀ i ∈ js, i ∈ own.map (·.2))
    (ht : ∀ s H C cl fp y, y ∈ xs → EBs (Blk X scope s H C cl fp) ifs (g (wipeS Γ (own.map (·.2))) y) (pp y))
    (he : ∀ s H C cl fp y, y ∈ xs → pp y = true → EV (Blk X scope s H C cl fp) elt (g (wipeS Γ (own.map (·.2))) y) d (f y))
    (hz : xs.length ≤ 16777216) (hc : X.calm = true := by rfl) (hs : ∀ x, foldedSetIterable iter X.env x = pure x := by intro _; rfl) :
    EO X (.ListComp elt [⟨tg, iter, ifs, 0⟩] scope pos) Γ (.ol d ((xs.filter pp).map f)) := by
  have hG : ∀ (s : Shared) (H : Hp) (C : Addr) (cl : List (Str × Addr)) (fp : List Addr), PTs (Blk X scope s H C cl fp) ifs (ttZ X.K c js (own.map (·.2)) g Γ xs pp) :=
    fun s H C cl fp => ⟨fun pins s' σ H' Q I ⟨y, hy, q⟩ => (ht s H C cl fp y hy).run pins s' σ H' Q I q⟩
  have hE : ∀ (s : Shared) (H : Hp) (C : Addr) (cl : List (Str × Addr)) (fp : List Addr), PE (Blk X scope s H C cl fp) elt (teZ X.K d (own.map (·.2)) g Γ xs pp f) :=
    fun s H C cl fp => ⟨fun pins s' σ H' Q I ⟨y, hy, hp, q⟩ => (he s H C cl fp y hy hp).run pins s' σ H' Q I q⟩
  exact PE.imp (pe_lc hc hN hi ok hg hG hE hs) fun σ H Q h => tlc_of hj hz h
/-- without a test -/
theorem eo_lc0 {elt : Expr} {scope : Scope} {own : List (Str × Nat)} {js : List Nat} {g : List Sl → α → List Sl} (f : α → β)
    (hN : X.N.Nodup) (hi : IT X tg iter Γ c xs) (ok : BlkOk X.N X.env.scope scope own)
    (hg : ∀ s H C cl fp, GZ (Blk X scope s H C cl fp) tg c js g) (hj : ∀ i ∈ js, i ∈ own.map (·.2))
    (he : ∀ s H C cl fp y, y ∈ xs → EV (Blk X scope s H C cl fp) elt (g (wipeS Γ (own.map (·.2))) y) d (f y))
    (hz : xs.length ≤ 16777216) (hc : X.calm = true := by rfl) (hs : ∀ x, foldedSetIterable iter X.env x = pure x := by intro _; rfl) :
    EO X (.ListComp elt [⟨tg, iter, [], 0⟩] scope pos) Γ (.ol d (xs.map f)) := by
  have h := eo_lc (pos := pos) (ifs := []) (fun _ => true) f hN hi ok hg hj (fun s H C cl fp y _ => ebs_nil) (fun s H C cl fp y hy _ => he s H C cl fp y hy) hz hc hs
  have e : (xs.filter fun _ => true) = xs := List.filter_eq_self.mpr fun _ _ => rfl
  rw [e] at h
  exact h
end
end Z

set_option Elab.async false
set_option linter.all false
set_option maxRecDepth 100000
set_option maxHeartbeats 4000000
/-! Zed: statements, loops, defs. -/
namespace Z
open PySem PySem.Spec PyProof.Rows L2

structure Out (ρ : Type) where
  nx : List Sl → Prop
  c : Rp ρ
  rt : ρ → Prop
  bk : List Sl → Prop := fun _ => False
  ct : List Sl → Prop := fun _ => False
structure Ct {ρ : Type} (K : Frag) (F0 H0 F : Hp) (O : Out ρ) (D : Ends) : Prop where
  nx : ∀ Γ' σ' F' H', O.nx Γ' → Same F F' → Ok K F0 H0 F' H' σ' Γ' → D.nx σ' H'
  rt : ∀ x v F' H', O.rt x → Gr F0 H0 F' H' → O.c.r K F' v x → D.rt v H'
  bk : ∀ Γ' σ' F' H', O.bk Γ' → Same F F' → Ok K F0 H0 F' H' σ' Γ' → D.bk σ' H'
  ct : ∀ Γ' σ' F' H', O.ct Γ' → Same F F' → Ok K F0 H0 F' H' σ' Γ' → D.ct σ' H'
theorem Ct.step {ρ : Type} {K : Frag} {F0 H0 F F1 : Hp} {O : Out ρ} {D : Ends} (h : Ct K F0 H0 F O D) (s : Same F F1) : Ct K F0 H0 F1 O D :=
  ⟨fun a b c d e f g => h.nx a b c d e (s.trans f) g, h.rt, fun a b c d e f g => h.bk a b c d e (s.trans f) g, fun a b c d e f g => h.ct a b c d e (s.trans f) g⟩
def tS {ρ : Type} (K : Frag) (Γ : List Sl) (O : Out ρ) : TS := fun D σ H => ∃ F0 H0 F, Ok K F0 H0 F H σ Γ ∧ Ct K F0 H0 F O D
abbrev SS {ρ : Type} (X : Cx) (sts : List Stmt) (Γ : List Sl) (O : Out ρ) : Prop := PSs X sts (tS X.K Γ O)
/-- any state from which the block is good -/
def tSa {ρ : Type} (X : Cx) (sts : List Stmt) : TS := fun D σ H => ∃ (Γ : List Sl) (O : Out ρ), SS X sts Γ O ∧ tS X.K Γ O D σ H
theorem ssa {ρ : Type} {X : Cx} {sts : List Stmt} : PSs X sts (tSa (ρ := ρ) X sts) := ⟨fun pins s σ H D I ⟨Γ, O, h, q⟩ => h.run pins s σ H D I q⟩
def tTa (X : Cx) (e : Expr) : TT := fun σ H Q => ∃ Γ b, EB X e Γ b ∧ tEB X.K Γ b σ H Q
theorem tta {X : Cx} {e : Expr} : PT X e (tTa X e) := ⟨fun pins s σ H Q I ⟨Γ, b, h, q⟩ => h.run pins s σ H Q I q⟩

section
variable {ρ : Type} {X : Cx} {Γ Γ' : List Sl} {O : Out ρ} {a b e tg iter : Expr} {es : List Expr} {st : Stmt} {A B rest body : List Stmt} {pos p p2 : Pos} {α β γ : Type} {c : Rp α} {d : Rp β} {x : α} {y : β} {xs : List α}

theorem ss_nil (h : O.nx Γ) : SS X [] Γ O := PSs.imp pss_nil fun D σ H ⟨F0, H0, F, ok, q⟩ => q.nx Γ σ F H h (Same.refl _) ok
theorem ss_weak (h : SS X rest Γ' O) (w : Wk Γ Γ') : SS X rest Γ O := PSs.imp h fun D σ H ⟨F0, H0, F, ok, q⟩ => ⟨F0, H0, F, ok.weak w, q⟩
/-- the head statement, then the rest -/
theorem ss_step {t : TS} (h : PS X st t) (q : ∀ F0 H0 F (D : Ends) σ H, Ok X.K F0 H0 F H σ Γ → Ct X.K F0 H0 F O D → t { D with nx := tSa (ρ := ρ) X rest D } σ H) : SS X (st :: rest) Γ O :=
  PSs.imp (pss_cons h (ssa (ρ := ρ))) fun D σ H ⟨F0, H0, F, ok, z⟩ => q F0 H0 F D σ H ok z
theorem ss_set (i : Nat) {n : Str} (hN : X.N.Nodup) (he : EV X e Γ c x) (h : SS X rest (Γ.set i (.v c x)) O) (hi : X.N[i]? = some n := by rfl) (hx : Loc X.env.scope n := by first | exact Or.inl rfl | exact Or.inr rfl)
    (hs : swapsWith e (some (.Name n p)) pos.line X.env = pure false := by rfl) (hf : X.fn n = true ∨ X.env.scope.names.lookup n = some .local := by first | exact .inl rfl | exact .inr rfl) : SS X (.Assign [.Name n p] e pos :: rest) Γ O :=
  ss_step (ps_set hN hi hx he hs hf) fun F0 H0 F D σ H ok q => ⟨F0, H0, F, ok, fun v F' H' g r => ⟨_, O, h, F0, H0, F', (ok.grow g).setV r, q.step g.ff⟩⟩
theorem ss_setO (i : Nat) {n : Str} {s : Sl} (hN : X.N.Nodup) (he : EO X e Γ s) (h : SS X rest (Γ.set i s) O) (hi : X.N[i]? = some n := by rfl) (hx : Loc X.env.scope n := by first | exact Or.inl rfl | exact Or.inr rfl)
    (hs : swapsWith e (some (.Name n p)) pos.line X.env = pure false := by rfl) (hf : X.fn n = true ∨ X.env.scope.names.lookup n = some .local := by first | exact .inl rfl | exact .inr rfl) (hp : ∀ l, s.pin l := by intro _; trivial) : SS X (.Assign [.Name n p] e pos :: rest) Γ O :=
  ss_step (ps_set hN hi hx he hs hf) fun F0 H0 F D σ H ok q => ⟨F0, H0, F, ok, fun l ho F' H' g hF hl hH r => ⟨_, O, h, F0, H0, F', ok.setC g hl hF hH r (hp l), q.step g.ff⟩⟩
/-- i = [f for x in xs if pp], on one line -/
theorem ss_setLc (i : Nat) {n : Str} {py : Pos} {elt tg iter : Expr} {ifs : List Expr} {scope : Scope} {own : List (Str × Nat)} {js : List Nat} {g : List Sl → α → List Sl} {xs : List α} {d : Rp β} {gpos : Pos} (pp : α → Bool) (f : α → β)
    (hN : X.N.Nodup) (hi : IT X tg iter Γ c xs) (ok : BlkOk X.N X.env.scope scope own)
    (hg : ∀ s H C cl fp, GZ (Blk X scope s H C cl fp) tg c js g) (hj : ∀ i ∈ js, i ∈ own.map (·.2))
    (ht : ∀ s H C cl fp y, y ∈ xs → EBs (Blk X scope s H C cl fp) ifs (g (wipeS Γ (own.map (·.2))) y) (pp y))
    (he : ∀ s H C cl fp y, y ∈ xs → pp y = true → EV (Blk X scope s H C cl fp) elt (g (wipeS Γ (own.map (·.2))) y) d (f y))
    (hz : xs.length ≤ 16777216) (h : SS X rest (Γ.set i (.ol d ((xs.filter pp).map f))) O) (hy : X.N[i]? = some n := by rfl) (hyl : X.env.scope.names.lookup n = some .local := by rfl)
    (hc : X.calm = true := by rfl) (hs : ∀ x, foldedSetIterable iter X.env x = pure x := by intro _; rfl)
    (hsw : swapsWith (.ListComp elt [⟨tg, iter, ifs, 0⟩] scope gpos) (some (.Name n py)) pos.line X.env = pure true := by exact sw_true rfl rfl rfl rfl) : SS X (.Assign [.Name n py] (.ListComp elt [⟨tg, iter, ifs, 0⟩] scope gpos) pos :: rest) Γ O :=
  have hG : ∀ (s : Shared) (H : Hp) (C : Addr) (cl : List (Str × Addr)) (fp : List Addr), PTs (Blk X scope s H C cl fp) ifs (ttZ X.K c js (own.map (·.2)) g Γ xs pp) :=
    fun s H C cl fp => ⟨fun pins s' σ H' Q I ⟨y, hy, q⟩ => (ht s H C cl fp y hy).run pins s' σ H' Q I q⟩
  have hE : ∀ (s : Shared) (H : Hp) (C : Addr) (cl : List (Str × Addr)) (fp : List Addr), PE (Blk X scope s H C cl fp) elt (teZ X.K d (own.map (·.2)) g Γ xs pp f) :=
    fun s H C cl fp => ⟨fun pins s' σ H' Q I ⟨y, hy, hp, q⟩ => (he s H C cl fp y hy hp).run pins s' σ H' Q I q⟩
  ss_step (ps_setLc hc hN hy hyl hsw hi ok hg hG hE hs) fun F0 H0 F D σ H ok q => tlc_of hj hz ⟨F0, H0, F, ok, fun l ho F' H' g hF hl hH r => ⟨_, O, h, F0, H0, F', ok.setC g hl hF hH r trivial, q.step g.ff⟩⟩
/-- a, b = e -/
theorem ss_asg {js : List Nat} {g : List Sl → α → List Sl} (hg : GZ X tg c js g) (he : EV X e Γ c x) (h : SS X rest (g Γ x) O) (hs : swapsWithSole [tg] e pos.line X.env = pure false := by rfl) (hw : swappedStores [tg] e X.env = pure none := by rfl)
    (h1 : (assignEach [tg] X.env).map (·.2) = [assign tg X.env] := by rfl) : SS X (.Assign [tg] e pos :: rest) Γ O :=
  ss_step (ps_asg he hg hs hw h1) fun F0 H0 F D σ H ok q => ⟨F0, H0, F, ok, fun v F' H' gr r => ⟨F0, H0, F', Γ, x, ok.grow gr, r, fun σ' ok' _ => ⟨_, O, h, F0, H0, F', ok', q.step gr.ff⟩⟩⟩
theorem ss_ret (he : EV X e Γ O.c x') (h : O.rt x') : SS X (.Return (some e) pos :: rest) Γ O :=
  ss_step (ps_ret he) fun F0 H0 F D σ H ok q => ⟨F0, H0, F, ok, fun v F' H' g r => q.rt x' v F' H' h (ok.gr.trans g) r⟩
theorem ss_if {k : Bool} (hc : EB X a Γ k) (hA : k = true → SS X A Γ { O with nx := fun Γ' => SS X rest Γ' O }) (hB : k = false → SS X B Γ { O with nx := fun Γ' => SS X rest Γ' O }) : SS X (.If a A B pos :: rest) Γ O :=
  ss_step (ps_if hc (ssa (ρ := ρ)) (ssa (ρ := ρ))) fun F0 H0 F D σ H ok q => ⟨F0, H0, F, ok, fun F' H' g => by
    have hq : Ct X.K F0 H0 F' { O with nx := fun Γ' => SS X rest Γ' O } { D with nx := tSa (ρ := ρ) X rest D } :=
      ⟨fun Γ' σ' F2 H2 h s k => ⟨Γ', O, h, F0, H0, F2, k, q.step (g.ff.trans s)⟩, q.rt, (q.step g.ff).bk, (q.step g.ff).ct⟩
    cases k with
    | true => exact iteT ⟨Γ, _, hA rfl, F0, H0, F', ok.grow g, hq⟩
    | false => exact iteF ⟨Γ, _, hB rfl, F0, H0, F', ok.grow g, hq⟩⟩
/-- the ways of an if joined: J is what holds behind it -/
theorem ss_ifJ {k : Bool} (J : List Sl) (hc : EB X a Γ k) (hA : k = true → SS X A Γ { O with nx := fun Γ' => Wk Γ' J }) (hB : k = false → SS X B Γ { O with nx := fun Γ' => Wk Γ' J }) (h : SS X rest J O) : SS X (.If a A B pos :: rest) Γ O := by
  have cv : ∀ {C : List Stmt}, SS X C Γ { O with nx := fun Γ' => Wk Γ' J } → SS X C Γ { O with nx := fun Γ' => SS X rest Γ' O } := fun hC => PSs.imp hC fun D σ H ⟨F0, H0, F, ok, q⟩ =>
    ⟨F0, H0, F, ok, fun Γ' σ' F' H' w s k => q.nx Γ' σ' F' H' (ss_weak h w) s k, q.rt, q.bk, q.ct⟩
  exact ss_if hc (fun e => cv (hA e)) fun e => cv (hB e)
theorem ss_brk (h : O.bk Γ) : SS X (.Break pos :: rest) Γ O := ss_step ps_break fun F0 H0 F D σ H ok q => q.bk Γ σ F H h (Same.refl _) ok
theorem ss_cont (h : O.ct Γ) : SS X (.Continue pos :: rest) Γ O := ss_step ps_continue fun F0 H0 F D σ H ok q => q.ct Γ σ F H h (Same.refl _) ok
theorem ss_pass (h : SS X rest Γ O) : SS X (.Pass pos :: rest) Γ O := ss_step ps_pass fun F0 H0 F D σ H ok q => ⟨Γ, O, h, F0, H0, F, ok, q⟩
/-- a statement that is never reached -/
theorem ss_never (h : False) : SS X (st :: rest) Γ O := h.elim
/-- a cell's list is frozen -/
theorem ss_fz (i : Nat) (hi : Γ[i]? = some (.ol c xs)) (h : SS X rest (Γ.set i (.v (rL c) xs)) O) : SS X rest Γ O := PSs.imp h fun D σ H ⟨F0, H0, F, ok, q⟩ => by
  obtain ⟨l, hl, ca⟩ := ok.cell hi rfl
  obtain ⟨ho, hH, vs, eo, pl⟩ := ca.o
  subst eo
  exact ⟨F0, H0, _, ok.freeze hi rfl hl hH ⟨l, vs, rfl, upd_same, PL.mono (same_upd ca.f) pl⟩, q.step (same_upd ca.f)⟩
/-- xs.append(e), xs a cell -/
theorem ss_app (i : Nat) {n : Str} {p3 : Pos} (hi : Γ[i]? = some (.ol c xs)) (he : EV X e Γ c x) (hz : xs.length < 16777216) (h : SS X rest (Γ.set i (.ol c (xs ++ [x]))) O) (hN : X.N[i]? = some n := by rfl)
    (hv : Vis X.env.scope n := by first | exact Or.inl rfl | exact Or.inr (Or.inl rfl) | exact Or.inr (Or.inr rfl))
    (hd : (n == ("__debug__" : Str)) = false := by decide) (hcd : (n == ("__classdict__" : Str)) = false := by decide)
    (hbase : attributeBase (.Name n p) "append" X.env (eval (.Name n p) X.env) = eval (.Name n p) X.env := by rfl)
    (hfew : ((backTo p3 (starEach [e] X.env)).all (fun x => !x.1) && (backToKw p3 (keywordEach [] X.env)).all (fun x => x.1.isSome)
      && decide (([e] : List Expr).length + ([] : List Keyword).length + (if ([] : List Keyword).isEmpty then 0 else 1) < 30)) = true := by rfl)
    (hline : (p2.endLine == p3.line) = true := by rfl) (hs1 : starEach [e] X.env = [(false, eval e X.env)] := by rfl) (hplain : (backTo p3 (starEach [] X.env)).any (·.1) = false := by rfl)
    (hs : swapsWith (.Call (.Attribute (.Name n p) "append" p2) [e] [] p3) none pos.line X.env = pure false := by rfl) : SS X (.Expr (.Call (.Attribute (.Name n p) "append" p2) [e] [] p3) pos :: rest) Γ O :=
  ss_step (ps_expr (pe_bm PySem.F.plainAttrs_list PySem.F.slot_list_append PySem.F.type_list_append mt_append (pv i hN hv hd hcd) (ea1 he hs1) hbase hfew hline hs1 hplain) hs) fun F0 H0 F D σ H ok q => by
    obtain ⟨l, hl, ca⟩ := ok.cell hi rfl
    obtain ⟨ho, hH, vs, eo, pl⟩ := ca.o
    subst eo
    refine ⟨_, hl, .inl ⟨rfl, vs, SqL.of hH⟩, F0, H0, F, ok, fun us F' H' g pa => ?_⟩
    obtain _ | ⟨r, p2⟩ := pa
    cases p2
    have ok' := ok.grow g
    have pl' := PL.mono g.ff pl
    refine ⟨l, vs, _, rfl, rfl, g.hh _ _ hH, by rw [Paired.length pl, sizeLine_eq]; exact hz, _, O, h, F0, H0, F', ?_, q.step g.ff⟩
    exact ok'.write hi rfl hl ⟨_, rfl, Paired.append pl' (.cons r .nil)⟩
/-- xs[j] = e, xs a cell -/
theorem ss_store (i : Nat) {n : Str} {j : Int} {m : Nat} (hi : Γ[i]? = some (.ol c xs)) (hb : EV X b Γ rInt j) (he : EV X e Γ c x) (hj : j = m) (hm : m < xs.length) (h : SS X rest (Γ.set i (.ol c (xs.set m x))) O) (hN : X.N[i]? = some n := by rfl)
    (hv : Vis X.env.scope n := by first | exact Or.inl rfl | exact Or.inr (Or.inl rfl) | exact Or.inr (Or.inr rfl))
    (hd : (n == ("__debug__" : Str)) = false := by decide) (hcd : (n == ("__classdict__" : Str)) = false := by decide)
    (ha : ∀ v, assign (.Subscript (.Name n p) b p2) X.env v = (do
      let ov ← holding [v] (eval (.Name n p) X.env)
      let iv ← holding [v, ov] (eval b X.env)
      standAt p2
      holding [v, ov, iv] (setItem ov iv v)
      release [v, ov, iv] []) := by intro _; rfl)
    (hs : swapsWithSole [.Subscript (.Name n p) b p2] e pos.line X.env = pure false := by rfl) (hw : swappedStores [.Subscript (.Name n p) b p2] e X.env = pure none := by rfl)
    (h1 : (assignEach [.Subscript (.Name n p) b p2] X.env).map (·.2) = [assign (.Subscript (.Name n p) b p2) X.env] := by rfl) : SS X (.Assign [.Subscript (.Name n p) b p2] e pos :: rest) Γ O :=
  ss_step (ps_asg he (pg_sub (pv i hN hv hd hcd) hb set_list ha) hs hw h1) fun F0 H0 F D σ H ok q => by
    refine ⟨F0, H0, F, ok, fun v F' H' g r => ?_⟩
    have ok' := ok.grow g
    obtain ⟨l, hl, ca⟩ := ok'.cell hi rfl
    refine ⟨_, hl, F0, H0, F', ok', fun w F2 H2 g2 r2 => ?_⟩
    have ok2 := ok'.grow g2
    obtain ⟨l', hl', ca2⟩ := ok2.cell hi rfl
    rw [hl] at hl'
    cases hl'
    obtain ⟨ho, hH, vs, eo, pl⟩ := ca2.o
    subst eo
    have hw : w = .int j := r2
    refine ⟨l, vs, j, m, rfl, hw, hH, ?_, _, O, h, F0, H0, F2, ?_, q.step (g.ff.trans g2.ff)⟩
    · subst hj
      unfold ixN
      rw [Paired.length pl, if_pos (by omega), if_pos (by omega), Int.toNat_natCast]
    · exact ok2.write hi rfl hl ⟨_, rfl, Paired.set (c.mono g2.ff r) m pl⟩

/-! ### loops -/
theorem ss_for {js : List Nat} {g : List Sl → α → List Sl} (I : Nat → List Sl → Prop) (hi : IT X tg iter Γ c xs) (hg : GZ X tg c js g) (h0 : I 0 Γ)
    (hs : ∀ i x Γ', xs[i]? = some x → I i Γ' → SS X body (g Γ' x) { O with nx := I (i + 1), ct := I (i + 1), bk := fun Γ'' => SS X rest Γ'' O })
    (hd : ∀ Γ', I xs.length Γ' → SS X rest Γ' O) (hp : PassesOwn (model X.prog X.w) X.A X.env X.xe := by exact PassesOwn.never) (hc : X.calm = true := by rfl) (hf : ∀ x, foldedSetIterable iter X.env x = pure x := by intro _; rfl) :
    SS X (.For tg iter body [] pos :: rest) Γ O :=
  ss_step (ps_for hp hc hi hg (ssa (ρ := ρ)) hf) fun F0 H0 F D σ H ok q => ⟨F0, H0, F, ok, fun J F1 H1 g1 wk => by
    refine for_it wk (fun i σ' H' => ∃ F' Γ', I i Γ' ∧ Ok X.K F0 H0 F' H' σ' Γ' ∧ Same F1 F') ⟨F1, Γ, h0, ok.grow g1, Same.refl _⟩ (fun i σ' H' _ ⟨F', Γ', _, k, s⟩ => s.trans k.sub) (fun i v σ' H' H2 hlt ⟨F', Γ', hI, k, s⟩ yz => ?_) fun σ' H' ⟨F', Γ', hI, k, s⟩ => ?_
    · obtain ⟨F2, y, g2, hy, ry⟩ := yz F' s k.sub
      refine ⟨F0, H0, F2, Γ', y, k.grow g2, ry, fun σ2 ok2 _ => ⟨_, _, hs i y Γ' hy hI, F0, H0, F2, ok2, ?_⟩⟩
      have s2 : Same F1 F2 := s.trans g2.ff
      exact ⟨fun Γ3 σ3 F3 H3 h3 s3 k3 => ⟨F3, Γ3, h3, k3, s2.trans s3⟩, q.rt, fun Γ3 σ3 F3 H3 h3 s3 k3 => ⟨Γ3, O, h3, F0, H0, F3, k3, q.step (g1.ff.trans (s2.trans s3))⟩, fun Γ3 σ3 F3 H3 h3 s3 k3 => ⟨F3, Γ3, h3, k3, s2.trans s3⟩⟩
    · exact ⟨Γ', O, hd Γ' hI, F0, H0, F', k, q.step (g1.ff.trans s)⟩⟩
/-- the common case: a state by the turn -/
theorem ss_forG {js : List Nat} {g : List Sl → α → List Sl} (G : Nat → List Sl) (hi : IT X tg iter Γ c xs) (hg : GZ X tg c js g) (h0 : Wk Γ (G 0))
    (hs : ∀ i x, xs[i]? = some x → SS X body (g (G i) x) { O with nx := fun Γ' => Wk Γ' (G (i + 1)), ct := fun Γ' => Wk Γ' (G (i + 1)), bk := fun Γ'' => SS X rest Γ'' O })
    (hd : SS X rest (G xs.length) O) (hp : PassesOwn (model X.prog X.w) X.A X.env X.xe := by exact PassesOwn.never) (hc : X.calm = true := by rfl) (hf : ∀ x, foldedSetIterable iter X.env x = pure x := by intro _; rfl) :
    SS X (.For tg iter body [] pos :: rest) Γ O := by
  refine ss_step (ps_for hp hc hi hg (ssa (ρ := ρ)) hf) fun F0 H0 F D σ H ok q => ⟨F0, H0, F, ok, fun J F1 H1 g1 wk => ?_⟩
  refine for_it wk (fun i σ' H' => ∃ F', Ok X.K F0 H0 F' H' σ' (G i) ∧ Same F1 F') ⟨F1, (ok.grow g1).weak h0, Same.refl _⟩ (fun i σ' H' _ ⟨F', k, s⟩ => s.trans k.sub) (fun i v σ' H' H2 hlt ⟨F', k, s⟩ yz => ?_) fun σ' H' ⟨F', k, s⟩ => ?_
  · obtain ⟨F2, y, g2, hy, ry⟩ := yz F' s k.sub
    refine ⟨F0, H0, F2, G i, y, k.grow g2, ry, fun σ2 ok2 _ => ⟨_, _, hs i y hy, F0, H0, F2, ok2, ?_⟩⟩
    have s2 : Same F1 F2 := s.trans g2.ff
    exact ⟨fun Γ3 σ3 F3 H3 h3 s3 k3 => ⟨F3, k3.weak h3, s2.trans s3⟩, q.rt, fun Γ3 σ3 F3 H3 h3 s3 k3 => ⟨Γ3, O, h3, F0, H0, F3, k3, q.step (g1.ff.trans (s2.trans s3))⟩, fun Γ3 σ3 F3 H3 h3 s3 k3 => ⟨F3, k3.weak h3, s2.trans s3⟩⟩
  · exact ⟨_, O, hd, F0, H0, F', k, q.step (g1.ff.trans s)⟩
theorem foldl_take_succ {α σ : Type} {f : σ → α → σ} {s0 : σ} {xs : List α} {i : Nat} {x : α} (h : xs[i]? = some x) : (xs.take (i + 1)).foldl f s0 = f ((xs.take i).foldl f s0) x := by
  have hi : i < xs.length := (List.getElem?_eq_some_iff.mp h).1
  have e : xs[i] = x := (List.getElem?_eq_some_iff.mp h).2
  rw [List.take_succ_eq_append_getElem hi, List.foldl_append, e]
  rfl
/-- a fold: s the state, Gs the slots by it -/
theorem ss_forF {σ : Type} (f : σ → α → σ) (s0 : σ) (Gs : σ → List Sl) (Iv : Nat → σ → Prop) {js : List Nat} {g : List Sl → α → List Sl} (hi : IT X tg iter Γ c xs) (hg : GZ X tg c js g) (h0 : Wk Γ (Gs s0))
    (hI0 : Iv 0 s0) (hI : ∀ i x s, xs[i]? = some x → Iv i s → Iv (i + 1) (f s x))
    (hs : ∀ i x s, xs[i]? = some x → Iv i s → SS X body (g (Gs s) x) { O with nx := fun Γ' => Wk Γ' (Gs (f s x)), ct := fun Γ' => Wk Γ' (Gs (f s x)), bk := fun Γ'' => SS X rest Γ'' O })
    (hd : Iv xs.length (xs.foldl f s0) → SS X rest (Gs (xs.foldl f s0)) O) (hp : PassesOwn (model X.prog X.w) X.A X.env X.xe := by exact PassesOwn.never) (hc : X.calm = true := by rfl) (hf : ∀ x, foldedSetIterable iter X.env x = pure x := by intro _; rfl) :
    SS X (.For tg iter body [] pos :: rest) Γ O := by
  have iv : ∀ i, i ≤ xs.length → Iv i ((xs.take i).foldl f s0) := by
    intro i
    induction i with
    | zero => intro _; exact hI0
    | succ i ih =>
      intro h
      have hx : xs[i]? = some xs[i] := List.getElem?_eq_getElem h
      rw [foldl_take_succ hx]
      exact hI i _ _ hx (ih (Nat.le_of_lt h))
  refine ss_forG (fun i => Gs ((xs.take i).foldl f s0)) hi hg h0 (fun i x hx => ?_) ?_ hp hc hf
  · have hlt := (List.getElem?_eq_some_iff.mp hx).1
    try dsimp only
    rw [foldl_take_succ hx]
    exact hs i x _ hx (iv i (Nat.le_of_lt hlt))
  · try dsimp only
    rw [List.take_length]
    have := iv xs.length (Nat.le_refl _)
    rw [List.take_length] at this
    exact hd this
theorem ss_while (I : Nat → List Sl → Prop) (m0 : Nat) (h0 : I m0 Γ)
    (turn : ∀ m Γ', I m Γ' → ∃ k, EB X a Γ' k ∧ (k = true → SS X body Γ' { O with nx := fun Γ'' => ∃ m', m' < m ∧ I m' Γ'', ct := fun Γ'' => ∃ m', m' < m ∧ I m' Γ'', bk := fun Γ'' => SS X rest Γ'' O }) ∧ (k = false → SS X rest Γ' O))
    (hp : PassesOwn (model X.prog X.w) X.A X.env X.xe := by exact PassesOwn.never) : SS X (.While a body [] pos :: rest) Γ O :=
  ss_step (ps_while hp tta (ssa (ρ := ρ))) fun F0 H0 F D σ H ok q => by
    refine ⟨fun m σ' H' => ∃ F' Γ', I m Γ' ∧ Ok X.K F0 H0 F' H' σ' Γ' ∧ Same F F', ⟨m0, F, Γ, h0, ok, Same.refl _⟩, ?_⟩
    rintro m σ1 H1 ⟨F1, Γ1, hI, k1, s1⟩
    obtain ⟨b, hb, ht, hf⟩ := turn m Γ1 hI
    refine ⟨Γ1, b, hb, F0, H0, F1, k1, fun F2 H2 g2 => ?_⟩
    have s2 := s1.trans g2.ff
    cases b with
    | true =>
      refine iteT ⟨fun σ' H' => ∃ m', m' < m ∧ ∃ F' Γ', I m' Γ' ∧ Ok X.K F0 H0 F' H' σ' Γ' ∧ Same F F', fun σ' H' h => h, Γ1, _, ht rfl, F0, H0, F2, k1.grow g2, ?_⟩
      exact ⟨fun Γ3 σ3 F3 H3 ⟨m', hm, h3⟩ s3 k3 => ⟨m', hm, F3, Γ3, h3, k3, s2.trans s3⟩, q.rt, fun Γ3 σ3 F3 H3 h3 s3 k3 => ⟨Γ3, O, h3, F0, H0, F3, k3, q.step (s2.trans s3)⟩, fun Γ3 σ3 F3 H3 ⟨m', hm, h3⟩ s3 k3 => ⟨m', hm, F3, Γ3, h3, k3, s2.trans s3⟩⟩
    | false => exact iteF ⟨Γ1, O, hf rfl, F0, H0, F2, k1.grow g2, q.step s2⟩
end

/-! ### defs -/
def argOk (K : Frag) (F : Hp) (v : V) : Sl → Prop
  | .v c x => c.r K F v x
  | _ => False
inductive ArgsOk (K : Frag) (F : Hp) : List V → List Sl → Prop
  | nil : ArgsOk K F [] []
  | cons {v : V} {s : Sl} {vs : List V} {ss : List Sl} : argOk K F v s → ArgsOk K F vs ss → ArgsOk K F (v :: vs) (s :: ss)
theorem ArgsOk.length {K : Frag} {F : Hp} : ∀ {vs : List V} {ss : List Sl}, ArgsOk K F vs ss → vs.length = ss.length
  | _, _, .nil => rfl
  | _, _, .cons _ t => congrArg Nat.succ t.length
theorem ArgsOk.get {K : Frag} {F : Hp} : ∀ {xs : List V} {ys : List Sl} {i : Nat} {y : Sl}, ArgsOk K F xs ys → ys[i]? = some y → ∃ x, xs[i]? = some x ∧ argOk K F x y
  | _, _, _, _, .nil, e => by simp at e
  | _, _, 0, _, .cons r _, e => by simp at e; subst e; exact ⟨_, rfl, r⟩
  | _, _, i + 1, y, .cons _ t, e => by
    obtain ⟨u, h1, h2⟩ := ArgsOk.get (i := i) (y := y) t (by simpa using e)
    exact ⟨u, by simpa using h1, h2⟩
theorem argOk.mono {K : Frag} {F F' : Hp} (s : Same F F') {v : V} : ∀ {t : Sl}, argOk K F v t → argOk K F' v t
  | .v c _, h => c.mono s h
  | .un, h => h.elim
  | .ol _ _, h => h.elim
  | .od _ _, h => h.elim
  | .oc _ _ _, h => h.elim
def spZ (K : Frag) {ι ρ : Type} (As : ι → List Sl) (pre : ι → Prop) (c : ι → Rp ρ) (m : ι → ρ) : Sp := fun vs H Q _ => ∃ a F, Same F H ∧ ArgsOk K F vs (As a) ∧ pre a ∧ ∀ v F' H', Gr F H F' H' → (c a).r K F' v (m a) → Q v H'
theorem ok_start {K : Frag} {F H : Hp} {N : List Str} {vs : List V} {ss : List Sl} (s : Same F H) (h : ArgsOk K F vs ss) (hl : ss.length ≤ N.length) : Ok K F H F H (L2.start N vs) (ss ++ List.replicate (N.length - ss.length) .un) := by
  have hv := ArgsOk.length h
  unfold L2.start
  refine ⟨Gr.refl s, by simp [hv], fun i t ht => ?_, fun i j t u l hij hi hj ci cj => ?_⟩
  · by_cases hi : i < ss.length
    · rw [List.getElem?_append_left hi] at ht
      obtain ⟨v, h1, h2⟩ := ArgsOk.get h ht
      refine ⟨some v, by rw [List.getElem?_append_left (by simp; omega), List.getElem?_map, h1]; rfl, ?_⟩
      cases t with
      | v c x => exact ⟨v, rfl, h2⟩
      | un => exact h2.elim
      | ol _ _ => exact h2.elim
      | od _ _ => exact h2.elim
      | oc _ _ _ => exact h2.elim
    · rw [List.getElem?_append_right (by omega), List.getElem?_replicate] at ht
      split at ht
      · cases ht
        refine ⟨none, ?_, trivial⟩
        rw [List.getElem?_append_right (by simp; omega), List.getElem?_replicate, if_pos (by simp; omega)]
      · cases ht
  · have nc : ∀ (i : Nat) (t : Sl), (ss ++ List.replicate (N.length - ss.length) Sl.un)[i]? = some t → t.cel = true → False := fun i t ht ct => by
      by_cases hi : i < ss.length
      · rw [List.getElem?_append_left hi] at ht
        obtain ⟨v, h1, h2⟩ := ArgsOk.get h ht
        cases t with
        | v c x => cases ct
        | un => exact h2.elim
        | ol _ _ => exact h2.elim
        | od _ _ => exact h2.elim
        | oc _ _ _ => exact h2.elim
      · rw [List.getElem?_append_right (by omega), List.getElem?_replicate] at ht
        split at ht
        · cases ht
          cases ct
        · cases ht
    exact (nc i t hi ci).elim
def outR {ρ : Type} (c : Rp ρ) (m : ρ) : Out ρ := { nx := fun _ => False, c := c, rt := fun x => x = m }
theorem ct_ret {ρ : Type} {K : Frag} {F H : Hp} {c : Rp ρ} {m : ρ} {Q : VK} (h : ∀ v F' H', Gr F H F' H' → c.r K F' v m → Q v H') (nx : L2.St → Hp → Prop) : Ct K F H F (outR c m) { nx := nx, rt := Q } :=
  ⟨fun _ _ _ _ h => h.elim, fun x v F' H' e g r => by
    have e' : x = m := e
    subst e'
    exact h v F' H' g r, fun _ _ _ _ h => h.elim, fun _ _ _ _ h => h.elim⟩
section
variable {P : Program} {w : World} {K : PySem.W.Frag} {mg : Str → Option Value} {base : Heap} {ι ρ : Type} {As : ι → List Sl} {pre : ι → Prop} {c : ι → Rp ρ} {m : ι → ρ}
abbrev cxz (P : Program) (w : World) (K : PySem.W.Frag) (mg : Str → Option Value) (base : Heap) (N : List Str) (qual : Str) (sc : Scope) (f : Addr) (cdv : Value) (A : Around) (outer : List Env) (s : Shared) (H : Hp) (E : XK) : Cx :=
  (cxOf CX0 P w K mg base N qual sc f cdv A outer s H E).nox
theorem _root_.L2.Fun.z {x qual : Str} {st : Stmt} {f : Addr} {fd : FuncData} {N ps : List Str} {k : Nat} (F : Fun K x qual st f fd) (S : FnScope N ps (defScope st)) (hl : ∀ a, (As a).length = ps.length) (hz : ps.length ≤ N.length)
    (hb : ∀ a, pre a → ∀ (cdv : Value) (A : Around) (outer : List Env) (s : Shared) (H : Hp) (E : XK), Room k (A.deeper (envOfC qual (defScope st) s.heap.objs.size f cdv)) →
      SS (cxz P w K mg base N qual (defScope st) f cdv A outer s H E) (defBody st) (As a ++ List.replicate (N.length - ps.length) .un) (outR (c a) (m a))) : FnOk P w K mg base CX0 (k + 1) f fd ps (spZ K As pre c m) :=
  F.ok S (fun vs H Q E ⟨a, F', _, h, _⟩ => (ArgsOk.length h).trans (hl a)) fun cdv A outer s H vs Q E hr ⟨a, F', sF, h, hp, q⟩ => by
    refine ⟨_, hb a hp cdv A outer s H E hr, F', H, F', ?_, ct_ret q _⟩
    have := ok_start (N := N) sF h (by rw [hl]; exact hz)
    rw [hl] at this
    exact this
theorem _root_.L2.FunD.z {x qual : Str} {params : Arguments} {body : List Stmt} {scope : Scope} {dvs : List V} {kws : List (Str × V)} {f : Addr} {fd : FuncData} {N ps : List Str} {k : Nat} (F : FunD K x qual params body scope dvs kws f fd) (S : FnScope N ps scope) (hl : ∀ a, (As a).length = ps.length) (hz : ps.length ≤ N.length)
    (hb : ∀ a, pre a → ∀ (cdv : Value) (A : Around) (outer : List Env) (s : Shared) (H : Hp) (E : XK), Room k (A.deeper (envOfC qual scope s.heap.objs.size f cdv)) →
      SS (cxz P w K mg base N qual scope f cdv A outer s H E) body (As a ++ List.replicate (N.length - ps.length) .un) (outR (c a) (m a))) : FnOk P w K mg base CX0 (k + 1) f fd ps (spZ K As pre c m) :=
  F.ok S (fun vs H Q E ⟨a, F', _, h, _⟩ => (ArgsOk.length h).trans (hl a)) fun cdv A outer s H vs Q E hr ⟨a, F', sF, h, hp, q⟩ => by
    refine ⟨_, (hb a hp cdv A outer s H E hr).nox, F', H, F', ?_, ct_ret q _⟩
    have := ok_start (N := N) sF h (by rw [hl]; exact hz)
    rw [hl] at this
    exact this
end
/-- a def as it may be called by its name: the given arguments, then the defaults -/
structure Df (P : Program) (w : World) (K : PySem.W.Frag) (mg : Str → Option Value) (base : Heap) (k : Nat) (n : Str) {ι ρ : Type} (As : ι → List Sl) (pre : ι → Prop) (c : ι → Rp ρ) (m : ι → ρ) : Prop where
  ex : ∃ (f : Addr) (fd : FuncData) (ps : List Str) (As' : ι → List Sl) (dvs : List V) (ds : List Value), FnOk P w K mg base CX0 k f fd ps (spZ K As' pre c m) ∧ mg n = some (.ref f) ∧ PySem.W.keepIn K (.ref f) = true ∧ Vals dvs ds ∧ Binds K fd ps ds ∧
    ∀ a F vs, ArgsOk K F vs (As a) → ArgsOk K F (vs ++ dvs) (As' a)
theorem Df.of {P : Program} {w : World} {K : PySem.W.Frag} {mg : Str → Option Value} {base : Heap} {k : Nat} {n : Str} {ι ρ : Type} {As : ι → List Sl} {pre : ι → Prop} {c : ι → Rp ρ} {m : ι → ρ} {f : Addr} {fd : FuncData} {ps : List Str}
    (G : FnOk P w K mg base CX0 k f fd ps (spZ K As pre c m)) (hm : mg n = some (.ref f)) (hk : PySem.W.keepIn K (.ref f) = true) (hb : Binds K fd ps []) : Df P w K mg base k n As pre c m :=
  ⟨f, fd, ps, As, [], [], G, hm, hk, .nil, hb, fun a F vs h => by rw [List.append_nil]; exact h⟩
/-- arguments as slots -/
def tES (K : Frag) (Γ : List Sl) (ss : List Sl) : TA := fun σ H Q => ∃ F0 H0 F, Ok K F0 H0 F H σ Γ ∧ ∀ vs F' H', Gr F H F' H' → ArgsOk K F' vs ss → Q vs H'
abbrev ES (X : Cx) (es : List Expr) (Γ : List Sl) (ss : List Sl) : Prop := PA X es (tES X.K Γ ss)
section
variable {X : Cx} {Γ : List Sl} {e : Expr} {es : List Expr} {pos p : Pos} {α : Type} {c : Rp α} {x : α} {ss : List Sl}
theorem es_nil : ES X [] Γ [] := PA.imp pa_nil fun σ H Q ⟨F0, H0, F, ok, q⟩ => q [] F H (Gr.refl ok.sub) .nil
theorem es_cons (h : EV X e Γ c x) (hr : ES X es Γ ss) (hs : starEach (e :: es) X.env = (false, eval e X.env) :: starEach es X.env := by rfl) : ES X (e :: es) Γ (.v c x :: ss) :=
  PA.imp (pa_cons h hr hs) fun σ H Q ⟨F0, H0, F, ok, q⟩ => ⟨F0, H0, F, ok, fun v F1 H1 g1 p1 => ⟨F0, H0, F1, ok.grow g1, fun vs F2 H2 g2 p2 => q (v :: vs) F2 H2 (g1.trans g2) (.cons (c.mono g2.ff p1) p2)⟩⟩
theorem ev_call {n : Str} {k : Nat} {ι ρ : Type} {As : ι → List Sl} {pre : ι → Prop} {c : ι → Rp ρ} {m : ι → ρ} (G : Df X.prog X.w X.K X.mg X.base k n As pre c m) (hr : Room k X.A) (a : ι) (ha : ES X (e :: es) Γ (As a)) (hp : pre a)
    (hg : Gl X n := by rfl) (hdb : (n == ("__debug__" : Str)) = false := by decide) (he : starEach (e :: es) X.env = (false, eval e X.env) :: starEach es X.env := by rfl) (hpl : (backTo pos (starEach es X.env)).any (·.1) = false := by rfl) :
    EV X (.Call (.Name n p) (e :: es) [] pos) Γ (c a) (m a) := by
  obtain ⟨f, fd, ps, As', dvs, ds, G, hm, hk, hd, hb, hA⟩ := G.ex
  exact PE.imp (pe_call G hr hg hm hk hb hd pass0 ha hdb he hpl) fun σ H Q ⟨F0, H0, F, ok, q⟩ => ⟨F0, H0, F, ok, fun vs F1 H1 g1 p1 => ⟨a, F1, g1.sub, hA a F1 vs p1, hp, fun v F2 H2 g2 r => q v F2 H2 (g1.trans g2) r⟩⟩
end
end Z

set_option Elab.async false
set_option linter.all false
set_option maxRecDepth 100000
set_option maxHeartbeats 4000000
/-! Zed: == of data, dicts, repeated lists. -/
namespace Z
open PySem PySem.Spec PyProof.Rows L2

/-! ### data as a whole -/
structure Dt {α : Type} (c : Rp α) where
  d : α → PyData
  good : α → Prop
  dp : ∀ {K F v x}, c.r K F v x → Dp K F v (d x)
  lay : ∀ x, good x → (d x).canLay0 = true
  n : Nat
  dep : ∀ x, (d x).depth ≤ n
  eqv : ∀ x y, PyData.eqv (d x) (d y) = true ↔ x = y
theorem Dt.shaped {α : Type} {c : Rp α} (D : Dt c) (hn : D.n ≤ 64) {x : α} (h : D.good x) : SeqAt.shaped (D.d x) = true := by
  show ((D.d x).canLay0 && decide ((D.d x).depth ≤ 64)) = true
  rw [Bool.and_eq_true]
  exact ⟨D.lay x h, decide_eq_true (Nat.le_trans (D.dep x) hn)⟩
theorem Dt.dec {α : Type} [DecidableEq α] {c : Rp α} (D : Dt c) (x y : α) : PyData.eqv (D.d x) (D.d y) = decide (x = y) := by
  by_cases h : x = y
  · rw [decide_eq_true h]
    exact (D.eqv x y).mpr h
  · rw [decide_eq_false h]
    cases e : PyData.eqv (D.d x) (D.d y) with
    | true => exact absurd ((D.eqv x y).mp e) h
    | false => rfl
def dInt : Dt rInt where
  d := .int
  good := fun _ => True
  dp := fun h => by
    cases (show _ = _ from h)
    exact .int _
  lay := fun _ _ => rfl
  n := 1
  dep := fun _ => by simp [PyData.depth]
  eqv := fun x y => by simp [PyData.eqv]
def dBool : Dt rBool where
  d := .bool
  good := fun _ => True
  dp := fun h => by
    cases (show _ = _ from h)
    exact .bl _
  lay := fun _ _ => rfl
  n := 1
  dep := fun _ => by simp [PyData.depth]
  eqv := fun x y => by simp [PyData.eqv]
def dTx : Dt rTx where
  d := fun l => .str (tx l)
  good := fun l => ∀ c ∈ l, c < 0x110000
  dp := fun h => by
    cases (show _ = _ from h)
    exact .str _
  lay := fun l h => by
    show ((tx l).cps.all fun c => decide (c < 0x110000)) = true
    rw [← Array.all_toList, List.all_eq_true]
    intro c hc
    rw [tx_toList] at hc
    exact decide_eq_true (h c hc)
  n := 1
  dep := fun _ => by simp [PyData.depth]
  eqv := fun x y => by
    simp only [PyData.eqv, beq_iff_eq]
    exact ⟨tx_inj, fun h => h ▸ rfl⟩
theorem dpAll_of {α : Type} {c : Rp α} (D : Dt c) {K : Frag} {F : Hp} : ∀ {vs : List V} {xs : List α}, PL c K F vs xs → DpAll K F vs (xs.map D.d)
  | _, _, .nil => .nil
  | _, _, .cons r t => .cons (D.dp r) (dpAll_of D t)
theorem layAll_of {α : Type} {c : Rp α} (D : Dt c) : ∀ {xs : List α}, (∀ x ∈ xs, D.good x) → PyData.canLayAll0 (xs.map D.d) = true
  | [], _ => by simp [PyData.canLayAll0]
  | x :: xs, h => by
    have i1 := D.lay x (h x (List.mem_cons_self ..))
    have i2 := layAll_of D fun y hy => h y (List.mem_cons_of_mem _ hy)
    simp [PyData.canLayAll0, i1, i2]
theorem depAll_of {α : Type} {c : Rp α} (D : Dt c) : ∀ xs : List α, PyData.depthAll (xs.map D.d) ≤ D.n
  | [] => by simp [PyData.depthAll]
  | x :: xs => by
    have h1 := D.dep x
    have h2 := depAll_of D xs
    simp only [List.map_cons, PyData.depthAll]
    omega
theorem eqvAll_of {α : Type} {c : Rp α} (D : Dt c) : ∀ xs ys : List α, PyData.eqvAll (xs.map D.d) (ys.map D.d) = true ↔ xs = ys
  | [], [] => by simp [PyData.eqvAll]
  | [], _ :: _ => by simp [PyData.eqvAll]
  | _ :: _, [] => by simp [PyData.eqvAll]
  | x :: xs, y :: ys => by
    have h1 := D.eqv x y
    have h2 := eqvAll_of D xs ys
    simp only [List.map_cons, PyData.eqvAll, Bool.and_eq_true, h1, h2, List.cons.injEq]
def dT {α : Type} {c : Rp α} (D : Dt c) : Dt (rT c) where
  d := fun xs => .tuple (xs.map D.d)
  good := fun xs => ∀ x ∈ xs, D.good x
  dp := fun ⟨a, vs, e, h, p⟩ => by
    subst e
    exact .tup h (dpAll_of D p)
  lay := fun xs h => by
    simp only [PyData.canLay0]
    exact layAll_of D h
  n := D.n + 1
  dep := fun xs => by
    have := depAll_of D xs
    simp only [PyData.depth]
    omega
  eqv := fun x y => by
    simp only [PyData.eqv]
    exact eqvAll_of D x y
def dL {α : Type} {c : Rp α} (D : Dt c) : Dt (rL c) where
  d := fun xs => .list (xs.map D.d)
  good := fun xs => ∀ x ∈ xs, D.good x
  dp := fun ⟨a, vs, e, h, p⟩ => by
    subst e
    exact .lst (SqL.of h) (dpAll_of D p)
  lay := fun xs h => by
    simp only [PyData.canLay0]
    exact layAll_of D h
  n := D.n + 1
  dep := fun xs => by
    have := depAll_of D xs
    simp only [PyData.depth]
    omega
  eqv := fun x y => by
    simp only [PyData.eqv]
    exact eqvAll_of D x y
def d2 {α β : Type} {c : Rp α} {k : Rp β} (D : Dt c) (E : Dt k) : Dt (r2 c k) where
  d := fun x => .tuple [D.d x.1, E.d x.2]
  good := fun x => D.good x.1 ∧ E.good x.2
  dp := fun ⟨a, v1, v2, e, h, p, q⟩ => by
    subst e
    exact .tup h (.cons (D.dp p) (.cons (E.dp q) .nil))
  lay := fun x h => by simp [PyData.canLay0, PyData.canLayAll0, D.lay _ h.1, E.lay _ h.2]
  n := max D.n E.n + 1
  dep := fun x => by
    have h1 := D.dep x.1
    have h2 := E.dep x.2
    simp only [PyData.depth, PyData.depthAll]
    omega
  eqv := fun x y => by
    obtain ⟨x1, x2⟩ := x
    obtain ⟨y1, y2⟩ := y
    simp only [PyData.eqv, PyData.eqvAll, Bool.and_eq_true, D.eqv, E.eqv, Prod.mk.injEq, and_true]
def d3 {α β γ : Type} {c : Rp α} {k : Rp β} {l : Rp γ} (D : Dt c) (E : Dt k) (G : Dt l) : Dt (r3 c k l) where
  d := fun x => .tuple [D.d x.1, E.d x.2.1, G.d x.2.2]
  good := fun x => D.good x.1 ∧ E.good x.2.1 ∧ G.good x.2.2
  dp := fun ⟨a, v1, v2, v3, e, h, p, q, z⟩ => by
    subst e
    exact .tup h (.cons (D.dp p) (.cons (E.dp q) (.cons (G.dp z) .nil)))
  lay := fun x h => by simp [PyData.canLay0, PyData.canLayAll0, D.lay _ h.1, E.lay _ h.2.1, G.lay _ h.2.2]
  n := max D.n (max E.n G.n) + 1
  dep := fun x => by
    have h1 := D.dep x.1
    have h2 := E.dep x.2.1
    have h3 := G.dep x.2.2
    simp only [PyData.depth, PyData.depthAll]
    omega
  eqv := fun x y => by
    obtain ⟨x1, x2, x3⟩ := x
    obtain ⟨y1, y2, y3⟩ := y
    simp only [PyData.eqv, PyData.eqvAll, Bool.and_eq_true, D.eqv, E.eqv, G.eqv, Prod.mk.injEq, and_true]

section
variable {X : Cx} {Γ : List Sl} {a b e : Expr} {es : List Expr} {pos p : Pos} {α β γ : Type} [DecidableEq α] {c : Rp α} {d : Rp β} {k : Rp γ} {x x' : α} {y : β}
theorem ev_eqD {kk : Nat} (D : Dt c) (hr : Room kk X.A) (ha : EV X a Γ c x) (hb : EV X b Γ c x') (h1 : D.good x) (h2 : D.good x') (hn : D.n ≤ 64 := by decide) : EV X (.Compare a [.Eq] [b] pos) Γ rBool (decide (x = x')) :=
  ez_bin (pe_cmpR (op_eqD hr.units) ha hb (nomark _)) fun F H v w Q s q1 q2 z => ⟨_, _, D.dp (c.mono s q1), D.dp (c.mono s q2), D.shaped hn h1, D.shaped hn h2, z _ F H (Gr.refl s) (by rw [D.dec]; rfl)⟩
theorem ev_neD {kk : Nat} (D : Dt c) (hr : Room kk X.A) (ha : EV X a Γ c x) (hb : EV X b Γ c x') (h1 : D.good x) (h2 : D.good x') (hn : D.n ≤ 64 := by decide) : EV X (.Compare a [.NotEq] [b] pos) Γ rBool (!decide (x = x')) :=
  ez_bin (pe_cmpR (op_neD hr.units) ha hb (nomark _)) fun F H v w Q s q1 q2 z => ⟨_, _, D.dp (c.mono s q1), D.dp (c.mono s q2), D.shaped hn h1, D.shaped hn h2, z _ F H (Gr.refl s) (by rw [D.dec]; rfl)⟩
theorem eb_eqD {kk : Nat} (D : Dt c) (hr : Room kk X.A) (ha : EV X a Γ c x) (hb : EV X b Γ c x') (h1 : D.good x) (h2 : D.good x') (hn : D.n ≤ 64 := by decide) : EB X (.Compare a [.Eq] [b] pos) Γ (decide (x = x')) :=
  eb_cmp (op_eqD hr.units) ha hb (nomark _) fun F H v w Q s q1 q2 z => ⟨_, _, D.dp (c.mono s q1), D.dp (c.mono s q2), D.shaped hn h1, D.shaped hn h2, by rw [D.dec]; exact z⟩
theorem eb_neD {kk : Nat} (D : Dt c) (hr : Room kk X.A) (ha : EV X a Γ c x) (hb : EV X b Γ c x') (h1 : D.good x) (h2 : D.good x') (hn : D.n ≤ 64 := by decide) : EB X (.Compare a [.NotEq] [b] pos) Γ (!decide (x = x')) :=
  eb_cmp (op_neD hr.units) ha hb (nomark _) fun F H v w Q s q1 q2 z => ⟨_, _, D.dp (c.mono s q1), D.dp (c.mono s q2), D.shaped hn h1, D.shaped hn h2, by rw [D.dec]; exact z⟩
theorem any_dec (D : Dt c) (x : α) : ∀ xs : List α, ((xs.map D.d).any fun z => PyData.eqv z (D.d x)) = decide (x ∈ xs)
  | [] => by simp
  | y :: ys => by
    rw [List.map_cons, List.any_cons, any_dec D x ys, D.dec]
    by_cases h : y = x
    · simp [h]
    · have : ¬ x = y := fun e => h e.symm
      simp [h, this]
/-- x in xs, a frozen list of data -/
theorem eb_inDL {kk : Nat} {xs : List α} (D : Dt c) (hr : Room kk X.A) (ha : EV X a Γ c x) (hb : EV X b Γ (rL c) xs) (h1 : D.good x) (h2 : ∀ y ∈ xs, D.good y) (hn : D.n ≤ 63 := by decide) (hm : behindInMarks .In b = false := by with_unfolding_all rfl) :
    EB X (.Compare a [.In] [b] pos) Γ (decide (x ∈ xs)) :=
  eb_cmp (op_inD (by have := hr.un; omega)) ha hb hm fun F H v w Q s q1 q2 z => ⟨_, xs.map D.d, D.dp (c.mono s q1), (dL D).dp ((rL c).mono s q2), D.shaped (by omega) h1, (dL D).shaped (show D.n + 1 ≤ 64 by omega) h2, by rw [any_dec]; exact z⟩
theorem eb_ninDL {kk : Nat} {xs : List α} (D : Dt c) (hr : Room kk X.A) (ha : EV X a Γ c x) (hb : EV X b Γ (rL c) xs) (h1 : D.good x) (h2 : ∀ y ∈ xs, D.good y) (hn : D.n ≤ 63 := by decide) (hm : behindInMarks .NotIn b = false := by with_unfolding_all rfl) :
    EB X (.Compare a [.NotIn] [b] pos) Γ (!decide (x ∈ xs)) :=
  eb_cmp (op_notInD (by have := hr.un; omega)) ha hb hm fun F H v w Q s q1 q2 z => ⟨_, xs.map D.d, D.dp (c.mono s q1), (dL D).dp ((rL c).mono s q2), D.shaped (by omega) h1, (dL D).shaped (show D.n + 1 ≤ 64 by omega) h2, by rw [any_dec]; exact z⟩
end

/-! ### tables -/
section
variable {κ : Type} [DecidableEq κ] {α : Type}
def dlook (kvs : List (κ × α)) (k : κ) : Option α := (kvs.find? fun kv => decide (kv.1 = k)).map (·.2)
def dput (kvs : List (κ × α)) (k : κ) (v : α) : List (κ × α) :=
  if (kvs.any fun kv => decide (kv.1 = k)) = true then kvs.map (fun kv => if kv.1 = k then (kv.1, v) else kv) else kvs ++ [(k, v)]
theorem dlook_nil {k : κ} : dlook ([] : List (κ × α)) k = none := rfl
theorem dlook_pos {p : κ × α} {r : List (κ × α)} {k : κ} (e : p.1 = k) : dlook (p :: r) k = some p.2 := by simp [dlook, List.find?_cons, e]
theorem dlook_neg {p : κ × α} {r : List (κ × α)} {k : κ} (e : ¬ p.1 = k) : dlook (p :: r) k = dlook r k := by simp [dlook, List.find?_cons, e]
theorem dlook_any (k : κ) : ∀ kvs : List (κ × α), (kvs.any fun kv => decide (kv.1 = k)) = (dlook kvs k).isSome
  | [] => rfl
  | p :: r => by
    rw [List.any_cons]
    by_cases e : p.1 = k
    · simp only [dlook_pos e, decide_eq_true e, Bool.true_or, Option.isSome_some]
    · rw [dlook_neg e, decide_eq_false e, Bool.false_or]; exact dlook_any k r
theorem dlook_map (k j : κ) (y : α) : ∀ kvs : List (κ × α), dlook (kvs.map fun kv => if kv.1 = k then (kv.1, y) else kv) j = (dlook kvs j).map fun x => if j = k then y else x
  | [] => rfl
  | p :: r => by
    have ih := dlook_map k j y r
    rw [List.map_cons]
    by_cases h : p.1 = k
    · rw [if_pos h]
      by_cases e : p.1 = j
      · rw [dlook_pos (p := (p.1, y)) e, dlook_pos e, Option.map_some, if_pos (e.symm.trans h)]
      · rw [dlook_neg (p := (p.1, y)) e, dlook_neg e, ih]
    · rw [if_neg h]
      by_cases e : p.1 = j
      · rw [dlook_pos (p := p) e, dlook_pos e, Option.map_some, if_neg (fun z => h (e.trans z))]
      · rw [dlook_neg (p := p) e, dlook_neg e, ih]
theorem dlook_snoc (k j : κ) (y : α) : ∀ kvs : List (κ × α), dlook kvs k = none → dlook (kvs ++ [(k, y)]) j = if j = k then some y else dlook kvs j
  | [], _ => by
    by_cases e : k = j
    · rw [if_pos e.symm]; exact dlook_pos (p := (k, y)) e
    · rw [if_neg (fun z => e z.symm)]; exact dlook_neg (p := (k, y)) e
  | p :: r, hn => by
    rw [List.cons_append]
    have hk : ¬ p.1 = k := fun z => by rw [dlook_pos z] at hn; cases hn
    rw [dlook_neg hk] at hn
    have ih := dlook_snoc k j y r hn
    by_cases e : p.1 = j
    · rw [dlook_pos e, dlook_pos e, if_neg (fun z => hk (e.trans z))]
    · rw [dlook_neg e, dlook_neg e, ih]
theorem dlook_put (kvs : List (κ × α)) (k j : κ) (y : α) : dlook (dput kvs k y) j = if j = k then some y else dlook kvs j := by
  unfold dput
  rw [dlook_any]
  cases h : dlook kvs k with
  | none => simp only [Option.isSome_none, Bool.false_eq_true, if_false]; exact dlook_snoc k j y kvs h
  | some v =>
    simp only [Option.isSome_some, if_true]
    rw [dlook_map]
    by_cases e : j = k
    · subst e; rw [h]; simp
    · simp [e]
theorem dput_keys (kvs : List (κ × α)) (k : κ) (y : α) : (dput kvs k y).map (·.1) = if (dlook kvs k).isSome = true then kvs.map (·.1) else kvs.map (·.1) ++ [k] := by
  unfold dput
  rw [dlook_any]
  by_cases h : (dlook kvs k).isSome = true
  · rw [if_pos h, if_pos h, List.map_map]
    apply List.map_congr_left
    intro p _
    show (if p.1 = k then (p.1, y) else p).1 = p.1
    split <;> rfl
  · rw [if_neg h, if_neg h, List.map_append]
    rfl
theorem dput_len (kvs : List (κ × α)) (k : κ) (y : α) : (dput kvs k y).length ≤ kvs.length + 1 := by
  unfold dput
  split
  · simp
  · simp
theorem dlook_mem {kvs : List (κ × α)} {k : κ} {v : α} (h : dlook kvs k = some v) : (k, v) ∈ kvs := by
  unfold dlook at h
  cases e : kvs.find? fun kv => decide (kv.1 = k) with
  | none =>
    rw [e] at h
    cases h
  | some p =>
    rw [e] at h
    have h1 := List.mem_of_find?_eq_some e
    have h2 : p.1 = k := of_decide_eq_true (List.find?_some (p := fun kv : κ × α => decide (kv.1 = k)) e)
    have h3 : p.2 = v := Option.some.inj h
    rw [← h2, ← h3]
    exact h1
theorem dlook_isSome {kvs : List (κ × α)} {k : κ} : (dlook kvs k).isSome = true ↔ k ∈ kvs.map (·.1) := by
  rw [← dlook_any, List.any_eq_true]
  constructor
  · rintro ⟨p, hp, e⟩
    exact List.mem_map.mpr ⟨p, hp, of_decide_eq_true e⟩
  · intro h
    obtain ⟨p, hp, e⟩ := List.mem_map.mp h
    exact ⟨p, hp, decide_eq_true e⟩
theorem dput_nodup {kvs : List (κ × α)} (k : κ) (y : α) (h : (kvs.map (·.1)).Nodup) : ((dput kvs k y).map (·.1)).Nodup := by
  rw [dput_keys]
  by_cases e : (dlook kvs k).isSome = true
  · rw [if_pos e]
    exact h
  · rw [if_neg e]
    exact nd_snoc h fun m => e (dlook_isSome.mpr m)
end

/-- keys that are texts, ints -/
def kT (l : List Nat) : Key := .inr (tx l)
def kI (i : Int) : Key := .inl i
theorem kT_inj {a b : List Nat} (h : kT a = kT b) : a = b := tx_inj (Sum.inr.inj h)
theorem kI_inj {a b : Int} (h : kI a = kI b) : a = b := Sum.inl.inj h
def odT {α : Type} (c : Rp α) (kvs : List (List Nat × α)) : Sl := .od c (kvs.map fun p => (kT p.1, p.2))
def odI {α : Type} (c : Rp α) (kvs : List (Int × α)) : Sl := .od c (kvs.map fun p => (kI p.1, p.2))
section
variable {κ α : Type} [DecidableEq κ] {kf : κ → Key} (hk : ∀ a b, kf a = kf b → a = b) {c : Rp α} {K : Frag} {F : Hp}
abbrev PD (c : Rp α) (K : Frag) (F : Hp) (ps : List (Key × V)) (kvs : List (Key × α)) : Prop := Paired (fun (p : Key × V) q => p.1 = q.1 ∧ c.r K F p.2 q.2) ps kvs
include hk in
theorem pd_look {k : κ} : ∀ {kvs : List (κ × α)} {ps : List (Key × V)}, PD c K F ps (kvs.map fun p => (kf p.1, p.2)) → (valV ps (kf k) = none ∧ dlook kvs k = none) ∨ ∃ v x, valV ps (kf k) = some v ∧ dlook kvs k = some x ∧ c.r K F v x
  | [], _, .nil => .inl ⟨rfl, rfl⟩
  | q :: kvs, _, .cons (a := p) r t => by
    by_cases e : q.1 = k
    · refine .inr ⟨p.2, q.2, valV_pos (r.1.trans (congrArg kf e)), dlook_pos e, r.2⟩
    · have e' : ¬ p.1 = kf k := fun z => e (hk _ _ (r.1.symm.trans z))
      rw [valV_neg e', dlook_neg e]
      exact pd_look t
include hk in
theorem pd_any {k : κ} {kvs : List (κ × α)} {ps : List (Key × V)} (h : PD c K F ps (kvs.map fun p => (kf p.1, p.2))) : (ps.any fun kv => decide (kv.1 = kf k)) = kvs.any fun kv => decide (kv.1 = k) := by
  rw [valV_any, dlook_any]
  rcases pd_look hk (k := k) h with ⟨h1, h2⟩ | ⟨v, x, h1, h2, _⟩
  · rw [h1, h2]; rfl
  · rw [h1, h2]; rfl
include hk in
theorem pd_put {k : κ} {v : V} {x : α} (r : c.r K F v x) {kvs : List (κ × α)} {ps : List (Key × V)} (h : PD c K F ps (kvs.map fun p => (kf p.1, p.2))) : PD c K F (putK ps (kf k) v) ((dput kvs k x).map fun p => (kf p.1, p.2)) := by
  unfold putK dput
  rw [pd_any hk h]
  by_cases e : (kvs.any fun kv => decide (kv.1 = k)) = true
  · rw [if_pos e, if_pos e]
    clear e
    induction kvs generalizing ps with
    | nil =>
      cases h
      exact .nil
    | cons q kvs ih =>
      cases h with
      | @cons p _ _ _ r' t =>
        refine .cons ?_ (ih t)
        by_cases e : q.1 = k
        · have e' : p.1 = kf k := r'.1.trans (congrArg kf e)
          dsimp only
          rw [if_pos e', if_pos e]
          exact ⟨r'.1, r⟩
        · have e' : ¬ p.1 = kf k := fun z => e (hk _ _ (r'.1.symm.trans z))
          dsimp only
          rw [if_neg e', if_neg e]
          exact r'
  · rw [if_neg e, if_neg e, List.map_append]
    exact Paired.append h (.cons ⟨rfl, r⟩ .nil)
theorem pd_keys : ∀ {kvs : List (Key × α)} {ps : List (Key × V)}, PD c K F ps kvs → ps.map (·.1) = kvs.map (·.1)
  | [], _, .nil => rfl
  | _ :: _, _, .cons r t => by
    rw [List.map_cons, List.map_cons, r.1, pd_keys t]
end

section
variable {ρ : Type} {X : Cx} {Γ : List Sl} {O : Out ρ} {a b e : Expr} {es : List Expr} {rest : List Stmt} {pos p p2 p3 : Pos} {α β γ : Type} {c : Rp α} {d : Rp β} {k : Rp γ} {x x' : α} {y : β}
theorem eo_dict : EO X (.Dict [] [] pos) Γ (.od c []) :=
  PE.imp pe_dnewK fun σ H Q ⟨F0, H0, F, ok, q⟩ t ht => q t _ F _ (Gr.hold ok.sub ht) (none_of_same ok.sub ht) ht upd_same ⟨[], rfl, .nil⟩
theorem eo_dictT : EO X (.Dict [] [] pos) Γ (odT c []) := eo_dict
theorem eo_dictI : EO X (.Dict [] [] pos) Γ (odI c []) := eo_dict
/-- the dict in a slot: its name gives its address -/
theorem tvar_cell {Γ : List Sl} {K : Frag} {F0 H0 F H : Hp} {σ : St} {i : Nat} {kvs : List (Key × α)} (ok : Ok K F0 H0 F H σ Γ) (h : Γ[i]? = some (.od c kvs)) : ∃ l ps, σ[i]? = some (some (.ref l)) ∧ H l = some (.dK ps) ∧ F l = none ∧ H0 l = none ∧ PD c K F ps kvs := by
  obtain ⟨l, hl, ca⟩ := ok.cell h rfl
  obtain ⟨ho, hH, ps, eo, pd⟩ := ca.o
  subst eo
  exact ⟨l, ps, hl, hH, ca.f, ca.h0, pd⟩
variable {κ : Type} [DecidableEq κ] {kf : κ → Key} {ck : Rp κ} {kvs : List (κ × α)} {j : κ} {n : Str}
/-- keys by their codec -/
structure Ky (ck : Rp κ) (kf : κ → Key) : Prop where
  v : ∀ {K F v x}, ck.r K F v x → v = kV (kf x)
  inj : ∀ a b, kf a = kf b → a = b
theorem kyT : Ky rTx kT := ⟨fun h => h, fun _ _ => kT_inj⟩
theorem kyI : Ky rInt kI := ⟨fun h => h, fun _ _ => kI_inj⟩
/-- j in d, d a dict in the slot i -/
theorem eb_inK {kk : Nat} (ky : Ky ck kf) (i : Nat) (hr : Room kk X.A) (ha : EV X a Γ ck j) (hi : Γ[i]? = some (.od c (kvs.map fun p => (kf p.1, p.2)))) (hN : X.N[i]? = some n := by rfl)
    (hv : Vis X.env.scope n := by first | exact Or.inl rfl | exact Or.inr (Or.inl rfl) | exact Or.inr (Or.inr rfl))
    (hd : (n == ("__debug__" : Str)) = false := by decide) (hcd : (n == ("__classdict__" : Str)) = false := by decide) (hm : behindInMarks .In (.Name n p) = false := by with_unfolding_all rfl) :
    EB X (.Compare a [.In] [.Name n p] pos) Γ (dlook kvs j).isSome :=
  PT.imp (pt_cmp (pc_din (hu_of hr) ha (pv i hN hv hd hcd)) hm) fun σ H Q ⟨F0, H0, F, ok, q⟩ => ⟨F0, H0, F, ok, fun v F1 H1 g1 r => by
    have ok1 := ok.grow g1
    obtain ⟨l, ps, hl, hH, _, _, pd⟩ := tvar_cell ok1 hi
    have ev : v = kV (kf j) := ky.v r
    subst ev
    refine ⟨_, hl, l, _, rfl, DGet.k hH, _, rfl, ?_⟩
    have : (valV ps (kf j)).isSome = (dlook kvs j).isSome := by
      rcases pd_look ky.inj (k := j) pd with ⟨h1, h2⟩ | ⟨u, x, h1, h2, _⟩
      · rw [h1, h2]; rfl
      · rw [h1, h2]; rfl
    rw [this]
    exact q F1 H1 g1⟩
theorem eb_ninK {kk : Nat} (ky : Ky ck kf) (i : Nat) (hr : Room kk X.A) (ha : EV X a Γ ck j) (hi : Γ[i]? = some (.od c (kvs.map fun p => (kf p.1, p.2)))) (hN : X.N[i]? = some n := by rfl)
    (hv : Vis X.env.scope n := by first | exact Or.inl rfl | exact Or.inr (Or.inl rfl) | exact Or.inr (Or.inr rfl))
    (hd : (n == ("__debug__" : Str)) = false := by decide) (hcd : (n == ("__classdict__" : Str)) = false := by decide) (hm : behindInMarks .NotIn (.Name n p) = false := by with_unfolding_all rfl) :
    EB X (.Compare a [.NotIn] [.Name n p] pos) Γ (!(dlook kvs j).isSome) :=
  PT.imp (pt_cmp (pc_dnotin (hu_of hr) ha (pv i hN hv hd hcd)) hm) fun σ H Q ⟨F0, H0, F, ok, q⟩ => ⟨F0, H0, F, ok, fun v F1 H1 g1 r => by
    have ok1 := ok.grow g1
    obtain ⟨l, ps, hl, hH, _, _, pd⟩ := tvar_cell ok1 hi
    have ev : v = kV (kf j) := ky.v r
    subst ev
    refine ⟨_, hl, l, _, rfl, DGet.k hH, _, rfl, ?_⟩
    have : (valV ps (kf j)).isSome = (dlook kvs j).isSome := by
      rcases pd_look ky.inj (k := j) pd with ⟨h1, h2⟩ | ⟨u, x, h1, h2, _⟩
      · rw [h1, h2]; rfl
      · rw [h1, h2]; rfl
    rw [this]
    exact q F1 H1 g1⟩
/-- d[j] -/
theorem ev_getK {kk : Nat} (ky : Ky ck kf) (i : Nat) (hr : Room kk X.A) (ha : EV X a Γ ck j) (hi : Γ[i]? = some (.od c (kvs.map fun p => (kf p.1, p.2)))) (hx : dlook kvs j = some x) (hN : X.N[i]? = some n := by rfl)
    (hv : Vis X.env.scope n := by first | exact Or.inl rfl | exact Or.inr (Or.inl rfl) | exact Or.inr (Or.inr rfl))
    (hd : (n == ("__debug__" : Str)) = false := by decide) (hcd : (n == ("__classdict__" : Str)) = false := by decide) (hs : NoSl a := by intro _ _; rfl) :
    EV X (.Subscript (.Name n p) a pos) Γ c x :=
  PE.imp (pe_dget (hu_of hr) (pv i hN hv hd hcd) ha hs) fun σ H Q ⟨F0, H0, F, ok, q⟩ => by
    obtain ⟨l, ps, hl, hH, _, _, pd⟩ := tvar_cell ok hi
    refine ⟨_, hl, F0, H0, F, ok, fun v F1 H1 g1 r => ?_⟩
    have ev : v = kV (kf j) := ky.v r
    subst ev
    have pd1 : PD c X.K F1 ps _ := Paired.mapP pd fun _ _ h => ⟨h.1, c.mono g1.ff h.2⟩
    rcases pd_look ky.inj (k := j) pd1 with ⟨h1, h2⟩ | ⟨u, x', h1, h2, r'⟩
    · rw [hx] at h2
      cases h2
    · rw [hx] at h2
      cases h2
      exact ⟨l, u, rfl, by rw [← h1]; exact DGet.k (g1.hh _ _ hH), q u F1 H1 g1 r'⟩
/-- d.get(j, e) -/
theorem ev_getOr {kk : Nat} (ky : Ky ck kf) (i : Nat) (hr : Room kk X.A) (ha : EV X a Γ ck j) (hb : EV X b Γ c x) (hi : Γ[i]? = some (.od c (kvs.map fun p => (kf p.1, p.2)))) (m : M2 X (.Name n p) "get" p2 a b p3) (hN : X.N[i]? = some n := by rfl)
    (hv : Vis X.env.scope n := by first | exact Or.inl rfl | exact Or.inr (Or.inl rfl) | exact Or.inr (Or.inr rfl))
    (hd : (n == ("__debug__" : Str)) = false := by decide) (hcd : (n == ("__classdict__" : Str)) = false := by decide) :
    EV X (.Call (.Attribute (.Name n p) "get" p2) [a, b] [] p3) Γ c ((dlook kvs j).getD x) :=
  PE.imp (pe_dget2 (hu_of hr) (pv i hN hv hd hcd) ha hb m) fun σ H Q ⟨F0, H0, F, ok, q⟩ => by
    obtain ⟨l, ps, hl, hH, _, _, pd⟩ := tvar_cell ok hi
    refine ⟨_, hl, l, rfl, .inl ⟨ps, .inl hH⟩, F0, H0, F, ok, fun v F1 H1 g1 r => ⟨F0, H0, F1, ok.grow g1, fun w F2 H2 g2 r2 => ?_⟩⟩
    have ev : v = kV (kf j) := ky.v r
    subst ev
    have gg := g1.trans g2
    have pd1 : PD c X.K F2 ps _ := Paired.mapP pd fun _ _ h => ⟨h.1, c.mono gg.ff h.2⟩
    refine ⟨_, DGet.k (gg.hh _ _ hH), ?_⟩
    rcases pd_look ky.inj (k := j) pd1 with ⟨h1, h2⟩ | ⟨u, x', h1, h2, r'⟩
    · rw [h1]
      rw [h2] at q
      exact q w F2 H2 gg r2
    · rw [h1]
      rw [h2] at q
      exact q u F2 H2 gg r'
/-- d[j] = e -/
theorem ss_putK {kk : Nat} (ky : Ky ck kf) (i : Nat) (hr : Room kk X.A) (he : EV X e Γ c x) (ha : EV X a Γ ck j) (hi : Γ[i]? = some (.od c (kvs.map fun p => (kf p.1, p.2)))) (hz : kvs.length < 16777216)
    (h : SS X rest (Γ.set i (.od c ((dput kvs j x).map fun p => (kf p.1, p.2)))) O) (hN : X.N[i]? = some n := by rfl)
    (hv : Vis X.env.scope n := by first | exact Or.inl rfl | exact Or.inr (Or.inl rfl) | exact Or.inr (Or.inr rfl))
    (hd : (n == ("__debug__" : Str)) = false := by decide) (hcd : (n == ("__classdict__" : Str)) = false := by decide)
    (hs : swapsWith e (some (.Subscript (.Name n p) a p2)) pos.line X.env = pure false := by rfl) : SS X (.Assign [.Subscript (.Name n p) a p2] e pos :: rest) Γ O :=
  ss_step (ps_dput (hu_of hr) (pv i hN hv hd hcd) ha he hs) fun F0 H0 F D σ H ok q => by
    refine ⟨F0, H0, F, ok, fun v F1 H1 g1 r => ?_⟩
    obtain ⟨l, ps, hl, hH, _, _, pd⟩ := tvar_cell (ok.grow g1) hi
    refine ⟨_, hl, F0, H0, F1, ok.grow g1, fun w F2 H2 g2 r2 => ?_⟩
    have ev : w = kV (kf j) := ky.v r2
    subst ev
    have ok2 := (ok.grow g1).grow g2
    have pd2 : PD c X.K F2 ps _ := Paired.mapP pd fun _ _ h => ⟨h.1, c.mono g2.ff h.2⟩
    have hlen : ps.length = kvs.length := by rw [Paired.length pd2, List.length_map]
    refine ⟨l, _, rfl, DPut.k (g2.hh _ _ hH) (by rw [hlen, sizeLine_eq]; exact hz), _, O, h, F0, H0, F2, ?_, q.step (g1.ff.trans g2.ff)⟩
    exact ok2.write hi rfl hl ⟨_, rfl, pd_put ky.inj (c.mono g2.ff r) pd2⟩
/-- list(d), d a dict in a slot -/
theorem eo_listK (ky : ∀ {K F} x, ck.r K F (kV (kf x)) x) (i : Nat) (hm : X.mg "list" = none) (hi : Γ[i]? = some (.od c (kvs.map fun p => (kf p.1, p.2)))) (hN : X.N[i]? = some n := by rfl)
    (hv : Vis X.env.scope n := by first | exact Or.inl rfl | exact Or.inr (Or.inl rfl) | exact Or.inr (Or.inr rfl))
    (hd : (n == ("__debug__" : Str)) = false := by decide) (hcd : (n == ("__classdict__" : Str)) = false := by decide) (hc : X.calm = true := by rfl)
    (hg : Gl X "list" := by rfl) (hs : starEach [.Name n p] X.env = [(false, eval (.Name n p) X.env)] := by rfl) : EO X (.Call (.Name "list" p2) [.Name n p] [] pos) Γ (.ol ck (kvs.map (·.1))) :=
  PE.imp (pe_callTy (call_list_dK hc) hg hm (by decide +kernel) (pa_cons (pv i hN hv hd hcd) pa_nil hs) (by decide) (by decide) hs rfl) fun σ H Q ⟨F0, H0, F, ok, q⟩ => by
    obtain ⟨l, ps, hl, hH, _, _, pd⟩ := tvar_cell ok hi
    refine ⟨_, hl, l, ps, rfl, hH, fun t ht => q t _ F _ (Gr.hold ok.sub ht) (none_of_same ok.sub ht) ht upd_same ⟨_, rfl, ?_⟩⟩
    have e : (ps.map fun kv => kV kv.1) = (kvs.map (·.1)).map fun x => kV (kf x) := by
      have := congrArg (List.map kV) (pd_keys pd)
      rw [List.map_map, List.map_map, List.map_map] at this
      rw [List.map_map]
      exact this
    rw [e]
    exact Paired.of_map (f := fun x => kV (kf x)) (fun x => ky x) _
/-- len(d) -/
theorem ev_lenK (i : Nat) (hm : X.mg "len" = none) (hi : Γ[i]? = some (.od c (kvs.map fun p => (kf p.1, p.2)))) (hN : X.N[i]? = some n := by rfl)
    (hv : Vis X.env.scope n := by first | exact Or.inl rfl | exact Or.inr (Or.inl rfl) | exact Or.inr (Or.inr rfl))
    (hd : (n == ("__debug__" : Str)) = false := by decide) (hcd : (n == ("__classdict__" : Str)) = false := by decide)
    (hg : Gl X "len" := by rfl) (hs : starEach [.Name n p] X.env = [(false, eval (.Name n p) X.env)] := by rfl) : EV X (.Call (.Name "len" p2) [.Name n p] [] pos) Γ rInt kvs.length :=
  PE.imp (pe_callB call_lenD hg hm boot_len (pa_cons (pv i hN hv hd hcd) pa_nil hs) (by decide) (by decide) hs rfl) fun σ H Q ⟨F0, H0, F, ok, q⟩ => by
    obtain ⟨l, ps, hl, hH, _, _, pd⟩ := tvar_cell ok hi
    refine ⟨_, hl, l, ps, rfl, hH, q _ F H (Gr.refl ok.sub) ?_⟩
    have hlen : ps.length = kvs.length := by rw [Paired.length pd, List.length_map]
    show V.int _ = V.int _
    rw [hlen]
end
end Z

set_option Elab.async false
set_option linter.all false
set_option maxRecDepth 100000
set_option maxHeartbeats 4000000
/-! Zed: instances, own ==, repeated lists, join, defaults. -/
namespace Z
open PySem PySem.Spec PyProof.Rows L2

section
open PySem.W
variable {prog : Program} {w : World} {A : Around} {E : Value → Shared → Prop} {s : Shared} {K : PySem.W.Frag} {x C L f : Addr} {h0 : Heap} {m : Str → Option Value} {ox : Obj} {od : Option Obj} {b tb : Value}
theorem ne_own {Q : Value → Shared → Prop} (hu : A.units + 1 < cLine) (F : Fr h0 L s.heap m) (X0 : K.In h0) (I : InstAt s.heap x ox C od) (hb : Looks (model prog w) s.heap (typeOf b) tb) (hn : notFirst K C tb = true)
    (hs : findIn K (.ref C) "__ne__" = some (some (.builtin "object.__ne__"))) (hm : mroIn K C (.type "object") = some true) (he : findIn K (.ref C) "__eq__" = some (some (.ref f))) (hf : isFn K (.ref f) = true)
    (h : wpAny (model prog w) A.in1 (call (.ref f) [.ref x, b]) (fun v s' => ∃ k, v = .bool k ∧ Q (.bool (!k)) s') E s) : wpAny (model prog w) A (richCompare .NotEq (.ref x) b) Q E s := by
  have X := X0.keeps F.keep
  have hu0 : A.units < cLine := Nat.lt_of_succ_lt hu
  have cn : wpAny (model prog w) A (call (.builtin "object.__ne__") [.ref x, b]) (fun v s' => ∃ k, v = .bool (!k) ∧ Q (.bool (!k)) s') E s := by
    refine wpAny_call (codeAny_call_builtin PySem.F.cmp_object.ne.plain PySem.F.cmpEntry_ne (check_slot (i := "object.__ne__") (owner := "object") (n := "__ne__") (by decide +kernel) (by decide +kernel) (I.type.andThen (looks_mroIn X hm)) (PySem.F.cmpArgs_ne _ _) ?_))
    unfold Builtin.«object.__ne__»
    refine wpAny_bind (m := slotArgs "__ne__" 1 _) (wpAny_pure ?_)
    refine wpAny_bind (m := cRoomFor _ _) (wpAny_cRoomFor (by show A.units + 1 < cLine; exact hu) ?_)
    refine wpAny_bind (m := callSpecialIfBound? (.ref x) (Str.ofString "__eq__") _) (ifBound_K X I he hf (wpAny_mono h (fun r s' hq => ?_) fun _ _ y => y))
    obtain ⟨k, rfl, q⟩ := hq
    refine wpAny_bind (m := truthy (.bool k)) (wpAny_truthy_bool ?_)
    exact wpAny_pure ⟨k, rfl, q⟩
  have one : wpAny (model prog w) A (tryCompare (.ref x) "__ne__" b) (fun r s' => ∃ v, r = some v ∧ Q v s') E s := by
    unfold tryCompare
    refine wpAny_bind ?_
    simp only [callSpecialIfBound?, bindSpecialIfBound?]
    refine wpAny_holding (wpAny_bind (wpAny_bind (wpAny_bind (I.type.here ((looks_findIn X hs).here ?_)))))
    refine wpAny_bind (wpAny_askSetting (wpAny_ite ?_))
    have fin : wpAny (model prog w) A (call (.builtin "object.__ne__") ([.ref x] ++ [b]) >>= fun v => pure (some v)) (fun r s' => ∃ k, r = some (.bool (!k)) ∧ Q (.bool (!k)) s') E s :=
      wpAny_bind (wpAny_mono cn (fun v s' ⟨k, e, q⟩ => wpAny_pure ⟨k, by rw [e], q⟩) fun _ _ h' => h')
    have fin2 : ∀ (r : Option Value) (s' : Shared), (∃ k, r = some (.bool (!k)) ∧ Q (.bool (!k)) s') → wpAny (model prog w) A (match r with | some .notImplemented => pure none | r => pure r : Sem (Option Value)) (fun r s' => ∃ v, r = some v ∧ Q v s') E s' := fun r s' ⟨k, e, q⟩ => by
      subst e
      exact wpAny_pure ⟨_, rfl, q⟩
    split
    · rw [PySem.F.cmp_object.ne.bind]
      refine wpAny_bind (wpAny_pure (wpAny_pure ?_))
      refine wpAny_mono fin (fun r s' q => ?_) fun _ _ h' => h'
      first
        | exact fin2 r s' q
        | (obtain ⟨k, e, q⟩ := q; subst e; exact wpAny_pure ⟨_, rfl, q⟩)
    · rw [PySem.F.cmp_object.ne.bind]
      refine wpAny_tryCatch (wpAny_bind (wpAny_pure (wpAny_pure ?_)))
      refine wpAny_mono fin (fun r s' q => ?_) fun _ _ h' => h'
      first
        | exact fin2 r s' q
        | (obtain ⟨k, e, q⟩ := q; subst e; exact wpAny_pure ⟨_, rfl, q⟩)
  unfold richCompare
  simp only [oneThing_ref]
  refine wpAny_holding (wpAny_bind (wpAny_cRoomFor hu0 ?_))
  refine wpAny_bind (I.type.here (wpAny_bind (hb.here ?_)))
  split
  · rename_i q
    have e : subIn K tb (.ref C) = some false := by
      rcases Bool.or_eq_true_iff.mp hn with e | e
      · rw [beq_iff_eq.mp e] at q; simp at q
      · exact beq_iff_eq.mp e
    refine wpAny_bind ((looks_subIn X e).here ?_)
    simp only [Bool.false_eq_true, if_false]
    refine wpAny_bind (wpAny_mono one (fun r s' z => ?_) fun _ _ e => e)
    obtain ⟨v, rfl, hq⟩ := z
    exact wpAny_pure hq
  · refine wpAny_bind (wpAny_pure ?_)
    simp only [Bool.false_eq_true, if_false]
    refine wpAny_bind (wpAny_mono one (fun r s' z => ?_) fun _ _ e => e)
    obtain ⟨v, rfl, hq⟩ := z
    exact wpAny_pure hq
end

theorem txt_join (a : Str) (ys : List Str) : Txt.join a ys = Str.join a ys := PySem.StrLaws.glued_eq_join a ys
/-! ### own == and != -/
structure Eqq (K : Frag) (C f : Addr) : Prop where
  eq : PySem.W.findIn K (.ref C) "__eq__" = some (some (.ref f))
  fn : PySem.W.isFn K (.ref f) = true
structure Nee (K : Frag) (C f : Addr) : Prop extends Eqq K C f where
  ne : PySem.W.findIn K (.ref C) "__ne__" = some (some (.builtin "object.__ne__"))
  mro : PySem.W.mroIn K C (.type "object") = some true
section
variable {X : Cx} {C f : Addr} {fd : FuncData} {ps : List Str} {n : Nat} {sp : Sp}
def rEqO (sp : Sp) (C : Addr) : R2 := fun x y H Q => ∃ a b dx dy fs gs, x = .ref a ∧ y = .ref b ∧ H a = some (.ins C dx fs) ∧ H b = some (.ins C dy gs) ∧ sp [.ref a, .ref b] H (fun v H' => ∃ k, v = .bl k ∧ Q (.bl k) H') E0
def rNeO (sp : Sp) (C : Addr) : R2 := fun x y H Q => ∃ a b dx dy fs gs, x = .ref a ∧ y = .ref b ∧ H a = some (.ins C dx fs) ∧ H b = some (.ins C dy gs) ∧ sp [.ref a, .ref b] H (fun v H' => ∃ k, v = .bl k ∧ Q (.bl (!k)) H') E0
theorem eq_run {A : Around} {pins : List (Addr × Obj)} {σ : L2.St} {H : Hp} {s : Shared} {a b : Addr} {Q : VK} (F : FnOk X.prog X.w X.K X.mg X.base CX0 n f fd ps sp) (hb : Binds X.K fd ps []) (hr : Room n A) (hA : A.frames = X.A.frames) (I : Inv X pins σ H s)
    (h : sp [.ref a, .ref b] H Q E0) : wpAny (model X.prog X.w) A (call (.ref f) [.ref a, .ref b]) (EP X pins σ Q) X.xe s := by
  have e0 : Env0 X.prog X.w X.K X.mg X.base A X.stack s H := by
    have e := I.env0
    exact ⟨by rw [hA]; exact e.frames, e.mod, e.bs, e.bsz, e.funs, e.frf, e.hok, e.bare⟩
  have hl := F.len _ _ _ _ h
  have r2 : Vals [V.ref a, V.ref b] [Value.ref a, Value.ref b] := .cons rfl (.cons rfl .nil)
  refine wpAny_call (codeAny_mono (F.run A X.stack s H ⟨[.ref a, .ref b], []⟩ [.ref a, .ref b] [.ref a, .ref b] _ E0 hr e0 (by
    have := hb s [.ref a, .ref b] I.kIn (by simpa using hl)
    simpa using this) r2 h) fun r s' hq => ?_)
  cases r with
  | error e => exact hq.elim
  | ok fl =>
    cases fl with
    | ret w => exact I.after hq
    | next => exact False.elim hq
    | brk => exact False.elim hq
    | cont => exact False.elim hq
theorem op_eqO (F : FnOk X.prog X.w X.K X.mg X.base CX0 n f fd ps sp) (hb : Binds X.K fd ps []) (q : Eqq X.K C f) (hr : Room n X.A) : OpR X (compareOp .Eq) (rEqO sp C) := by
  intro pins s σ H x y v u Q I rx ry h
  obtain ⟨a, b, dx, dy, fs, gs, rfl, rfl, ha, hb', hsp⟩ := h
  cases rx
  cases ry
  obtain ⟨mA, J, _⟩ := ins_get I.hok ha
  obtain ⟨mB, J', _⟩ := ins_get I.hok hb'
  obtain ⟨od, J, _⟩ := J.look
  obtain ⟨od', J', _⟩ := J'.look
  obtain ⟨m, hF⟩ := I.fr
  show wpAny (model X.prog X.w) X.A (richCompare .Eq (.ref a) (.ref b)) (EP X pins σ Q) X.xe s
  refine PySem.W.cmp_K (op := .Eq) (tb := .ref C) hr.units0 hF I.ok.mod.kin J J'.type (by simp [PySem.W.notFirst]) q.eq q.fn ?_
  refine thn (eq_run F hb hr rfl I hsp) fun v s' ⟨z, H', I', rz, k, ez, q⟩ => ?_
  subst ez
  cases rz
  exact ⟨.bl k, H', I', rfl, q⟩
theorem op_neO (F : FnOk X.prog X.w X.K X.mg X.base CX0 n f fd ps sp) (hb : Binds X.K fd ps []) (q : Nee X.K C f) (hr : Room (n + 1) X.A) : OpR X (compareOp .NotEq) (rNeO sp C) := by
  intro pins s σ H x y v u Q I rx ry h
  obtain ⟨a, b, dx, dy, fs, gs, rfl, rfl, ha, hb', hsp⟩ := h
  cases rx
  cases ry
  obtain ⟨mA, J, _⟩ := ins_get I.hok ha
  obtain ⟨mB, J', _⟩ := ins_get I.hok hb'
  obtain ⟨od, J, _⟩ := J.look
  obtain ⟨od', J', _⟩ := J'.look
  obtain ⟨m, hF⟩ := I.fr
  show wpAny (model X.prog X.w) X.A (richCompare .NotEq (.ref a) (.ref b)) (EP X pins σ Q) X.xe s
  refine ne_own (tb := .ref C) (by have := hr.un; omega) hF I.ok.mod.kin J J'.type (by simp [PySem.W.notFirst]) q.ne q.mro q.eq q.fn ?_
  refine thn (eq_run F hb hr.in1 rfl I hsp) fun v s' ⟨z, H', I', rz, k, ez, q⟩ => ?_
  subst ez
  cases rz
  exact ⟨k, rfl, .bl (!k), H', I', rfl, q⟩
end

section
variable {ρ : Type} {X : Cx} {Γ : List Sl} {O : Out ρ} {a b e : Expr} {es : List Expr} {rest : List Stmt} {pos p p2 p3 : Pos} {α β γ : Type} {c : Rp α} {d : Rp β} {k : Rp γ} {x x' : α} {y : β} {C f : Addr} {fl : α → List (Str × Fd)} {n : Str}
/-- e.n -/
theorem ev_fld (he : EV X e Γ (rIns C fl) x) (hc : Cls X.K C) (hn : NoAttr X.K C n) (hl : (fl x).lookup n = some (fd d y)) (hb : attributeBase e n X.env (eval e X.env) = eval e X.env := by rfl) : EV X (.Attribute e n pos) Γ d y :=
  PE.imp (pe_fld he hb) fun σ H Q ⟨F0, H0, F, ok, q⟩ => ⟨F0, H0, F, ok, fun v F1 H1 g1 ⟨t, dx, vs, ev, ht, fo⟩ => by
    obtain ⟨u, h1, h2⟩ := fo.look hl
    exact ⟨t, C, dx, vs, u, ev, g1.sub _ _ ht, hc, hn, h1, q u F1 H1 g1 h2⟩⟩
/-- self.n = e, self a cell in the slot i -/
theorem ss_fld (i : Nat) {m : Str} {fs : List (Str × Fd)} (he : EV X e Γ c x) {xa : Addr} (hi : Γ[i]? = some (.oc xa C fs)) (hc : Cls X.K C) (hn : NoAttr X.K C n) (hl : fs.lookup n = none) (hz : fs.length < 1000) (h : SS X rest (Γ.set i (.oc xa C (fs ++ [(n, fd c x)]))) O) (hN : X.N[i]? = some m := by rfl)
    (hv : Vis X.env.scope m := by first | exact Or.inl rfl | exact Or.inr (Or.inl rfl) | exact Or.inr (Or.inr rfl))
    (hd : (m == ("__debug__" : Str)) = false := by decide) (hcd : (m == ("__classdict__" : Str)) = false := by decide)
    (hs : swapsWith e (some (.Attribute (.Name m p) n p2)) pos.line X.env = pure false := by rfl) : SS X (.Assign [.Attribute (.Name m p) n p2] e pos :: rest) Γ O :=
  ss_step (ps_fld (pv i hN hv hd hcd) he hs) fun F0 H0 F D σ H ok q => ⟨F0, H0, F, ok, fun v F1 H1 g1 r => by
    have ok1 := ok.grow g1
    obtain ⟨l, hl', ca⟩ := ok1.cell hi rfl
    obtain ⟨ho, hH, dx, vs, eo, fo⟩ := ca.o
    subst eo
    refine ⟨_, hl', l, C, dx, vs, rfl, hH, hc, hn, by rw [fo.len]; exact hz, _, O, h, F0, H0, F1, ?_, q.step g1.ff⟩
    exact ok1.write hi rfl hl' ⟨dx, _, rfl, fo.put (g := fd c x) r hl⟩ ca.pin⟩
/-- own == -/
theorem ev_eqO {kk : Nat} {fdd : FuncData} {ps : List Str} {ι : Type} {As : ι → List Sl} {pre : ι → Prop} {m : ι → Bool} (G : FnOk X.prog X.w X.K X.mg X.base CX0 kk f fdd ps (spZ X.K As pre (fun _ => rBool) m)) (hbi : Binds X.K fdd ps []) (q : Eqq X.K C f) (hr : Room kk X.A)
    (ha : EV X a Γ (rIns C fl) x) (hb : EV X b Γ (rIns C fl) x') (i : ι) (hA : As i = [.v (rIns C fl) x, .v (rIns C fl) x']) (hp : pre i) : EV X (.Compare a [.Eq] [b] pos) Γ rBool (m i) :=
  ez_bin (pe_cmpR (op_eqO G hbi q hr) ha hb (nomark _)) fun F H v w Q s h1 h2 z => by
    obtain ⟨t, dx, vs, ev, ht, fo⟩ := id h1
    obtain ⟨t', dx', vs', ev', ht', fo'⟩ := id h2
    subst ev
    subst ev'
    refine ⟨t, t', dx, dx', vs, vs', rfl, rfl, s _ _ ht, s _ _ ht', i, F, s, ?_, hp, fun u F' H' g r => ⟨m i, r, z _ F' H' g rfl⟩⟩
    rw [hA]
    exact .cons h1 (.cons h2 .nil)
theorem eb_neO {kk : Nat} {fdd : FuncData} {ps : List Str} {ι : Type} {As : ι → List Sl} {pre : ι → Prop} {m : ι → Bool} (G : FnOk X.prog X.w X.K X.mg X.base CX0 kk f fdd ps (spZ X.K As pre (fun _ => rBool) m)) (hbi : Binds X.K fdd ps []) (q : Nee X.K C f) (hr : Room (kk + 1) X.A)
    (ha : EV X a Γ (rIns C fl) x) (hb : EV X b Γ (rIns C fl) x') (i : ι) (hA : As i = [.v (rIns C fl) x, .v (rIns C fl) x']) (hp : pre i) : EB X (.Compare a [.NotEq] [b] pos) Γ (!m i) :=
  PT.imp (pt_cmpR (op_neO G hbi q hr) ha hb (nomark _)) fun σ H Q ⟨F0, H0, F, ok, z⟩ => ⟨F0, H0, F, ok, fun v F1 H1 g1 p1 => ⟨F0, H0, F1, ok.grow g1, fun w F2 H2 g2 h2 => by
    have h1 := (rIns C fl).mono g2.ff p1
    obtain ⟨t, dx, vs, ev, ht, fo⟩ := id h1
    obtain ⟨t', dx', vs', ev', ht', fo'⟩ := id h2
    subst ev
    subst ev'
    refine ⟨t, t', dx, dx', vs, vs', rfl, rfl, g2.sub _ _ ht, g2.sub _ _ ht', i, F2, g2.sub, ?_, hp, fun u F' H' g r => ⟨m i, r, !m i, rfl, z F' H' ((g1.trans g2).trans g)⟩⟩
    rw [hA]
    exact .cons h1 (.cons h2 .nil)⟩⟩
/-- [e] * k and such, frozen lists -/
theorem eo_rep {xs : List α} {i : Int} (m : Nat) (ha : EV X a Γ (rL c) xs) (hb : EV X b Γ rInt i) (hi : i = m := by rfl) (hm : m < 2 ^ 62 := by decide) (hz : xs.length * m ≤ 16777216) : EO X (.BinOp a .Mult b pos) Γ (.ol c (List.replicate m xs).flatten) :=
  eo_bin (pe_op op_rep ha hb) fun F H v w Q s ⟨l, vs, ev, hl, pl⟩ h2 z => by
    subst hi
    refine ⟨l, _, vs, ev, h2, s _ _ hl, by omega, by omega, by rw [Int.toNat_natCast, Paired.length pl, sizeLine_eq]; exact hz, fun t ht => ?_⟩
    rw [Int.toNat_natCast]
    refine z t _ F _ (Gr.hold s ht) (none_of_same s ht) ht upd_same ⟨_, rfl, ?_⟩
    clear hz hb h2 z
    induction m with
    | zero => exact .nil
    | succ m ih =>
      rw [List.replicate_succ, List.replicate_succ, List.flatten_cons, List.flatten_cons]
      exact Paired.append pl (ih (by omega))
/-- sep.join(xs) -/
theorem ev_join {l : List Nat} {xs : List (List Nat)} (ha : EV X a Γ rTx l) (hb : EL X b Γ rTx xs) (hz : (xs.map (·.length)).sum + xs.length * l.length ≤ 16777216) (hs : starEach [b] X.env = [(false, eval b X.env)] := by rfl)
    (hbase : attributeBase a "join" X.env (eval a X.env) = eval a X.env := by rfl) (hline : (p2.endLine == pos.line) = true := by rfl) : EV X (.Call (.Attribute a "join" p2) [b] [] pos) Γ rTx (joinT l xs) :=
  PE.imp (pe_join ha hb hs hbase hline) fun σ H Q ⟨F0, H0, F, ok, q⟩ => ⟨F0, H0, F, ok, fun v F1 H1 g1 hv => ⟨⟨_, hv⟩, F0, H0, F1, ok.grow g1, fun w F2 H2 g2 ⟨t, vs, ew, ht, pl⟩ => by
    have h1 : v = .str (tx l) := hv
    refine ⟨tx l, t, xs.map tx, h1, by rw [ew], .inl (by rw [← PL.txs pl]; exact ht), ?_, q _ F2 H2 (g1.trans g2) ?_⟩
    · have e : (xs.map tx).map (·.length) = xs.map (·.length) := by
        rw [List.map_map]
        apply List.map_congr_left
        intro y _
        exact tx_len y
      rw [e, List.length_map, tx_len]
      exact hz
    · show V.str _ = V.str _
      rw [← join_tx, txt_join]⟩⟩
end

/-! ### making instances -/
/-- __init__ : the instance x is a cell at the entry; behind it a frozen value -/
def spMk (K : Frag) (C : Addr) {ι α : Type} (As : ι → List Sl) (pre : ι → Prop) (c : Rp α) (m : ι → α) : Sp := fun vs H Q _ => ∃ a F H1 x dx vs', vs = .ref x :: vs' ∧ Same F H1 ∧ Same H1 H ∧ H1 x = none ∧ H x = some (.ins C dx []) ∧ ArgsOk K F vs' (As a) ∧ pre a ∧
  ∀ F' H', Gr F H1 F' H' → c.r K F' (.ref x) (m a) → Q .non H'
def outI (x C : Addr) (fs : List (Str × Fd)) : Out Unit := { nx := fun Γ => Γ[0]? = some (.oc x C fs), c := rNon, rt := fun _ => False }
section
variable {P : Program} {w : World} {K : PySem.W.Frag} {mg : Str → Option Value} {base : Heap} {ι α : Type} {As : ι → List Sl} {pre : ι → Prop} {m : ι → α} {C : Addr} {fl : α → List (Str × Fd)}
theorem ok_startI {F H1 H : Hp} {N ps : List Str} {x dx : Addr} {vs' : List V} {ss : List Sl} (sF : Same F H1) (sH : Same H1 H) (hx : H1 x = none) (hH : H x = some (.ins C dx [])) (h : ArgsOk K F vs' ss) (hla : ss.length + 1 = ps.length) (hz : ps.length ≤ N.length) :
    Ok K F H1 F H (L2.start N (.ref x :: vs')) (.oc x C [] :: ss ++ List.replicate (N.length - ps.length) .un) := by
  have sFH : Same F H := sF.trans sH
  have hFx : F x = none := none_of_same sF hx
  have hv := ArgsOk.length h
  have g0 : Gr F H1 F H := ⟨sH, Same.refl _, sFH, fun _ _ h => .inl h⟩
  unfold L2.start
  have get : ∀ (i : Nat) (t : Sl), (Sl.oc x C [] :: ss ++ List.replicate (N.length - ps.length) Sl.un)[i]? = some t → (i = 0 ∧ t = .oc x C []) ∨ ∃ j, i = j + 1 ∧ (ss ++ List.replicate (N.length - ps.length) Sl.un)[j]? = some t := fun i t ht => by
    cases i with
    | zero => exact .inl ⟨rfl, (Option.some.inj ht).symm⟩
    | succ j => exact .inr ⟨j, rfl, ht⟩
  have nocel : ∀ (j : Nat) (t : Sl), (ss ++ List.replicate (N.length - ps.length) Sl.un)[j]? = some t → t.cel = true → False := fun j t ht ct => by
    by_cases hi : j < ss.length
    · rw [List.getElem?_append_left hi] at ht
      obtain ⟨v, h1, h2⟩ := ArgsOk.get h ht
      cases t with
      | v c x => cases ct
      | un => exact h2.elim
      | ol _ _ => exact h2.elim
      | od _ _ => exact h2.elim
      | oc _ _ _ => exact h2.elim
    · rw [List.getElem?_append_right (by omega), List.getElem?_replicate] at ht
      split at ht
      · cases ht
        cases ct
      · cases ht
  refine ⟨g0, by simp [hv]; omega, fun i t ht => ?_, fun i j t u l hij hi hj ci cj => ?_⟩
  · rcases get i t ht with ⟨rfl, rfl⟩ | ⟨j, rfl, hj⟩
    · exact ⟨some (.ref x), rfl, x, rfl, hFx, hx, ⟨_, hH, dx, [], rfl, .nil⟩, rfl⟩
    · by_cases hi : j < ss.length
      · rw [List.getElem?_append_left hi] at hj
        obtain ⟨v, h1, h2⟩ := ArgsOk.get h hj
        refine ⟨some v, ?_, ?_⟩
        · show ((vs'.map some) ++ _)[j]? = _
          rw [List.getElem?_append_left (by simp; omega), List.getElem?_map, h1]
          rfl
        · cases t with
          | v c x => exact ⟨v, rfl, h2⟩
          | un => exact h2.elim
          | ol _ _ => exact h2.elim
          | od _ _ => exact h2.elim
          | oc _ _ _ => exact h2.elim
      · rw [List.getElem?_append_right (by omega), List.getElem?_replicate] at hj
        split at hj
        · cases hj
          refine ⟨none, ?_, trivial⟩
          show ((vs'.map some) ++ List.replicate (N.length - (V.ref x :: vs').length) none)[j]? = _
          rw [List.getElem?_append_right (by simp; omega), List.getElem?_replicate, if_pos (by simp; omega)]
        · cases hj
  · rcases get i t hi with ⟨rfl, rfl⟩ | ⟨i', rfl, hi'⟩
    · rcases get j u hj with ⟨rfl, rfl⟩ | ⟨j', rfl, hj'⟩
      · exact absurd rfl hij
      · exact (nocel j' u hj' cj).elim
    · exact (nocel i' t hi' ci).elim
end
/-- C(..) -/
structure DfC (P : Program) (w : World) (K : PySem.W.Frag) (mg : Str → Option Value) (base : Heap) (k : Nat) (n : Str) (C : Addr) {ι α : Type} (As : ι → List Sl) (pre : ι → Prop) (c : Rp α) (m : ι → α) : Prop where
  ex : ∃ (f : Addr) (fd : FuncData) (ps : List Str), FnOk P w K mg base CX0 k f fd ps (spMk K C As pre c m) ∧ mg n = some (.ref C) ∧ Mk K C f ∧ Binds K fd ps []
section
variable {X : Cx} {Γ : List Sl} {e : Expr} {es : List Expr} {pos p : Pos} {C : Addr}
theorem ev_make {n : Str} {k : Nat} {ι α : Type} {As : ι → List Sl} {pre : ι → Prop} {c : Rp α} {m : ι → α} (G : DfC X.prog X.w X.K X.mg X.base k n C As pre c m) (hr : Room (k + 1) X.A) (a : ι) (ha : ES X (e :: es) Γ (As a)) (hp : pre a)
    (hg : Gl X n := by rfl) (hdb : (n == ("__debug__" : Str)) = false := by decide) (he : starEach (e :: es) X.env = (false, eval e X.env) :: starEach es X.env := by rfl) (hpl : (backTo pos (starEach es X.env)).any (·.1) = false := by rfl) :
    EV X (.Call (.Name n p) (e :: es) [] pos) Γ c (m a) := by
  obtain ⟨f, fd, ps, G, hm, hM, hb⟩ := G.ex
  exact PE.imp (pe_make hM G hr hg hm hb .nil pass0 ha hdb he hpl) fun σ H Q ⟨F0, H0, F, ok, q⟩ => ⟨F0, H0, F, ok, fun vs F1 H1 g1 p1 x dx hx hdx hne => by
    refine ⟨a, F1, H1, x, dx, vs, by rw [List.append_nil], g1.sub, ?_, hx, upd_same, p1, hp, fun F2 H2 g2 r => ⟨rfl, q _ F2 H2 (g1.trans g2) r⟩⟩
    exact (same_upd hdx).trans (same_upd (by rw [upd_ne hne.symm]; exact hx))⟩
end
end Z

set_option Elab.async false
set_option linter.all false
set_option maxRecDepth 100000
set_option maxHeartbeats 4000000
/-! Zed: promises by a relation; defs with keyword defaults; the head's facts. -/
namespace Z
open PySem PySem.Spec PyProof.Rows L2

/-! ### some value with a property -/
def tEx {α : Type} (K : Frag) (Γ : List Sl) (c : Rp α) (post : α → Prop) : TE := fun σ H Q => ∃ F0 H0 F, Ok K F0 H0 F H σ Γ ∧ ∀ x v F' H', post x → Gr F H F' H' → c.r K F' v x → Q v H'
abbrev EX (X : Cx) (e : Expr) (Γ : List Sl) {α : Type} (c : Rp α) (post : α → Prop) : Prop := PE X e (tEx X.K Γ c post)
def spP (K : Frag) {ι ρ : Type} (As : ι → List Sl) (pre : ι → Prop) (c : ι → Rp ρ) (post : ι → ρ → Prop) : Sp := fun vs H Q _ => ∃ a F, Same F H ∧ ArgsOk K F vs (As a) ∧ pre a ∧ ∀ x v F' H', post a x → Gr F H F' H' → (c a).r K F' v x → Q v H'
def outP {ρ : Type} (c : Rp ρ) (post : ρ → Prop) : Out ρ := { nx := fun _ => False, c := c, rt := post }
section
variable {P : Program} {w : World} {K : PySem.W.Frag} {mg : Str → Option Value} {base : Heap} {ι ρ : Type} {As : ι → List Sl} {pre : ι → Prop} {c : ι → Rp ρ} {m : ι → ρ} {post : ι → ρ → Prop}
theorem _root_.L2.FunD.p {x qual : Str} {params : Arguments} {body : List Stmt} {scope : Scope} {dvs : List V} {kws : List (Str × V)} {f : Addr} {fd : FuncData} {N ps : List Str} {k : Nat} (F : FunD K x qual params body scope dvs kws f fd) (S : FnScope N ps scope) (hl : ∀ a, (As a).length = ps.length) (hz : ps.length ≤ N.length)
    (hb : ∀ a, pre a → ∀ (cdv : Value) (A : Around) (outer : List Env) (s : Shared) (H : Hp) (E : XK), Room k (A.deeper (envOfC qual scope s.heap.objs.size f cdv)) →
      SS (cxz P w K mg base N qual scope f cdv A outer s H E) body (As a ++ List.replicate (N.length - ps.length) .un) (outP (c a) (post a))) : FnOk P w K mg base CX0 (k + 1) f fd ps (spP K As pre c post) :=
  F.ok S (fun vs H Q E ⟨a, F', _, h, _⟩ => (ArgsOk.length h).trans (hl a)) fun cdv A outer s H vs Q E hr ⟨a, F', sF, h, hp, q⟩ => by
    refine ⟨_, (hb a hp cdv A outer s H E hr).nox, F', H, F', ?_, ⟨fun _ _ _ _ h => h.elim, fun x v F2 H2 e g r => q x v F2 H2 e g r, fun _ _ _ _ h => h.elim, fun _ _ _ _ h => h.elim⟩⟩
    have := ok_start (N := N) sF h (by rw [hl]; exact hz)
    rw [hl] at this
    exact this
theorem _root_.L2.FunD.mkz {x qual : Str} {params : Arguments} {body : List Stmt} {scope : Scope} {dvs : List V} {kws : List (Str × V)} {C : Addr} {α : Type} {fl : α → List (Str × Fd)} {m : ι → α} {f : Addr} {fd : FuncData} {N ps : List Str} {k : Nat} (F : FunD K x qual params body scope dvs kws f fd) (S : FnScope N ps scope) (hl : ∀ a, (As a).length + 1 = ps.length) (hz : ps.length ≤ N.length)
    (hb : ∀ a, pre a → ∀ (x : Addr) (cdv : Value) (A : Around) (outer : List Env) (s : Shared) (H : Hp) (E : XK), Room k (A.deeper (envOfC qual scope s.heap.objs.size f cdv)) →
      SS (cxz P w K mg base N qual scope f cdv A outer s H E) body (.oc x C [] :: As a ++ List.replicate (N.length - ps.length) .un) (outI x C (fl (m a)))) : FnOk P w K mg base CX0 (k + 1) f fd ps (spMk K C As pre (rIns C fl) m) :=
  F.ok S (fun vs H Q E ⟨a, F', H1, x, dx, vs', ev, _, _, _, _, h, _⟩ => by rw [ev, List.length_cons, ArgsOk.length h]; exact hl a) fun cdv A outer s H vs Q E hr ⟨a, F', H1, x, dx, vs', ev, sF, sH, hx, hH, h, hp, q⟩ => by
    subst ev
    refine ⟨_, (hb a hp x cdv A outer s H E hr).nox, F', H1, F', ok_startI sF sH hx hH h (hl a) hz, ?_⟩
    refine ⟨fun Γ' σ' F2 H2 hn s2 ok2 => ?_, fun _ _ _ _ h => h.elim, fun _ _ _ _ h => h.elim, fun _ _ _ _ h => h.elim⟩
    have hn' : Γ'[0]? = some (.oc x C (fl (m a))) := hn
    obtain ⟨l, hl', ca⟩ := ok2.cell hn' rfl
    have ex : l = x := ca.pin
    subst ex
    obtain ⟨ho, hH2, dx2, vs2, eo, fo⟩ := ca.o
    subst eo
    have okf := ok2.freeze (c := rIns C fl) (x := m a) hn' rfl hl' hH2 ⟨l, dx2, vs2, rfl, upd_same, fo.mono (same_upd ca.f)⟩
    exact q _ _ okf.gr ⟨l, dx2, vs2, rfl, upd_same, fo.mono (same_upd ca.f)⟩
end
structure Dfp (P : Program) (w : World) (K : PySem.W.Frag) (mg : Str → Option Value) (base : Heap) (k : Nat) (n : Str) {ι ρ : Type} (As : ι → List Sl) (pre : ι → Prop) (c : ι → Rp ρ) (post : ι → ρ → Prop) : Prop where
  ex : ∃ (f : Addr) (fd : FuncData) (ps : List Str) (As' : ι → List Sl) (dvs : List V) (ds : List Value), FnOk P w K mg base CX0 k f fd ps (spP K As' pre c post) ∧ mg n = some (.ref f) ∧ PySem.W.keepIn K (.ref f) = true ∧ Vals dvs ds ∧ Binds K fd ps ds ∧
    ∀ a F vs, ArgsOk K F vs (As a) → ArgsOk K F (vs ++ dvs) (As' a)
section
variable {ρ : Type} {X : Cx} {Γ : List Sl} {O : Out ρ} {e : Expr} {es : List Expr} {rest : List Stmt} {pos p : Pos} {α : Type} {c : Rp α} {x : α} {ss : List Sl} {post : α → Prop}
theorem ex_call {n : Str} {k : Nat} {ι ρ : Type} {As : ι → List Sl} {pre : ι → Prop} {c : ι → Rp ρ} {post : ι → ρ → Prop} (G : Dfp X.prog X.w X.K X.mg X.base k n As pre c post) (hr : Room k X.A) (a : ι) (ha : ES X (e :: es) Γ (As a)) (hp : pre a)
    (hg : Gl X n := by rfl) (hdb : (n == ("__debug__" : Str)) = false := by decide) (he : starEach (e :: es) X.env = (false, eval e X.env) :: starEach es X.env := by rfl) (hpl : (backTo pos (starEach es X.env)).any (·.1) = false := by rfl) :
    EX X (.Call (.Name n p) (e :: es) [] pos) Γ (c a) (post a) := by
  obtain ⟨f, fd, ps, As', dvs, ds, G, hm, hk, hd, hb, hA⟩ := G.ex
  exact PE.imp (pe_call G hr hg hm hk hb hd pass0 ha hdb he hpl) fun σ H Q ⟨F0, H0, F, ok, q⟩ => ⟨F0, H0, F, ok, fun vs F1 H1 g1 p1 => ⟨a, F1, g1.sub, hA a F1 vs p1, hp, fun x v F2 H2 e g2 r => q x v F2 H2 e (g1.trans g2) r⟩⟩
theorem ss_setX (i : Nat) {n : Str} (hN : X.N.Nodup) (he : EX X e Γ c post) (h : ∀ x, post x → SS X rest (Γ.set i (.v c x)) O) (hi : X.N[i]? = some n := by rfl) (hx : Loc X.env.scope n := by first | exact Or.inl rfl | exact Or.inr rfl)
    (hs : swapsWith e (some (.Name n p)) pos.line X.env = pure false := by rfl) (hf : X.fn n = true ∨ X.env.scope.names.lookup n = some .local := by first | exact .inl rfl | exact .inr rfl) : SS X (.Assign [.Name n p] e pos :: rest) Γ O :=
  ss_step (ps_set hN hi hx he hs hf) fun F0 H0 F D σ H ok q => ⟨F0, H0, F, ok, fun x v F' H' hp g r => ⟨_, O, h x hp, F0, H0, F', (ok.grow g).setV r, q.step g.ff⟩⟩
end

/-! ### defs over the head's facts -/
/-- a def of the text by its name: no defaults -/
structure Fn0 (K : Frag) (mg : Str → Option Value) (x : Str) (st : Stmt) (kws : List (Str × V)) : Prop where
  ex : ∃ f fd, FunD K x x (defArgs st) (defBody st) (defScope st) [] kws f fd ∧ mg x = some (.ref f)
section
variable {P : Program} {w : World} {K : PySem.W.Frag} {mg : Str → Option Value} {base : Heap} {ι ρ : Type} {As : ι → List Sl} {pre : ι → Prop} {c : ι → Rp ρ} {m : ι → ρ} {post : ι → ρ → Prop} {x : Str} {st : Stmt} {N ps : List Str} {k : Nat}
theorem Fn0.df (F : Fn0 K mg x st []) (S : FnScope N ps (defScope st)) (hl : ∀ a, (As a).length = ps.length) (hz : ps.length ≤ N.length)
    (h : ∀ (kV doc pm : Value) (an : Option Addr) (cdv ct : Value) (us : List Value), us.length = ps.length → bindArgs (PySem.W.fnOf x x (defArgs st) (defBody st) (defScope st) .none kV doc pm an cdv ct) ⟨us, []⟩ = pure (ps.zip us))
    (hb : ∀ a, pre a → ∀ (f : Addr) (cdv : Value) (A : Around) (outer : List Env) (s : Shared) (H : Hp) (E : XK), Room k (A.deeper (envOfC x (defScope st) s.heap.objs.size f cdv)) →
      SS (cxz P w K mg base N x (defScope st) f cdv A outer s H E) (defBody st) (As a ++ List.replicate (N.length - ps.length) .un) (outR (c a) (m a))) : Df P w K mg base (k + 1) x As pre c m := by
  obtain ⟨f, fd, F, hm⟩ := F.ex
  exact Df.of (F.z S hl hz fun a hp => hb a hp f) hm F.kp (F.bindsN h)
theorem Fn0.dfp (F : Fn0 K mg x st []) (S : FnScope N ps (defScope st)) (hl : ∀ a, (As a).length = ps.length) (hz : ps.length ≤ N.length)
    (h : ∀ (kV doc pm : Value) (an : Option Addr) (cdv ct : Value) (us : List Value), us.length = ps.length → bindArgs (PySem.W.fnOf x x (defArgs st) (defBody st) (defScope st) .none kV doc pm an cdv ct) ⟨us, []⟩ = pure (ps.zip us))
    (hb : ∀ a, pre a → ∀ (f : Addr) (cdv : Value) (A : Around) (outer : List Env) (s : Shared) (H : Hp) (E : XK), Room k (A.deeper (envOfC x (defScope st) s.heap.objs.size f cdv)) →
      SS (cxz P w K mg base N x (defScope st) f cdv A outer s H E) (defBody st) (As a ++ List.replicate (N.length - ps.length) .un) (outP (c a) (post a))) : Dfp P w K mg base (k + 1) x As pre c post := by
  obtain ⟨f, fd, F, hm⟩ := F.ex
  exact ⟨f, fd, ps, As, [], [], F.p S hl hz fun a hp => hb a hp f, hm, F.kp, .nil, F.bindsN h, fun a F vs h => by rw [List.append_nil]; exact h⟩
/-- keyword-only parameters left out: As' with their values behind -/
theorem Fn0.dfk {kws : List (Str × V)} {As' : ι → List Sl} (F : Fn0 K mg x st kws) (S : FnScope N ps (defScope st)) (n : Nat) (hk : kws ≠ []) (hn : n + kws.length = ps.length) (hl : ∀ a, (As' a).length = ps.length) (hz : ps.length ≤ N.length)
    (h : ∀ (D : Addr) (doc pm : Value) (an : Option Addr) (cdv ct : Value) (us ks : List Value), us.length = n → ks.length = kws.length →
      KwChain D ((kws.map (·.1)).zip ks) (bindArgs (PySem.W.fnOf x x (defArgs st) (defBody st) (defScope st) .none (.ref D) doc pm an cdv ct) ⟨us, []⟩) (ps.zip (us ++ ks)))
    (hA : ∀ a F vs, ArgsOk K F vs (As a) → ArgsOk K F (vs ++ kws.map (·.2)) (As' a))
    (hb : ∀ a, pre a → ∀ (f : Addr) (cdv : Value) (A : Around) (outer : List Env) (s : Shared) (H : Hp) (E : XK), Room k (A.deeper (envOfC x (defScope st) s.heap.objs.size f cdv)) →
      SS (cxz P w K mg base N x (defScope st) f cdv A outer s H E) (defBody st) (As' a ++ List.replicate (N.length - ps.length) .un) (outR (c a) (m a))) : Df P w K mg base (k + 1) x As pre c m := by
  obtain ⟨f, fd, F, hm⟩ := F.ex
  obtain ⟨ds, hv, hbi⟩ := F.binds0 (ps := ps) n hk hn h
  exact ⟨f, fd, ps, As', _, ds, F.z S hl hz fun a hp => hb a hp f, hm, F.kp, hv, hbi, hA⟩
end
/-- a method of the text -/
structure Mt0 (K : Frag) (C : Addr) (m q : Str) (st : Stmt) : Prop where
  ex : ∃ f fd, FunD K m q (defArgs st) (defBody st) (defScope st) [] [] f fd ∧ Meth K C m f

/-! ### the head's Hook: facts by names and tests of the written part -/
def obsZ (fa : List He.Fa) (ex : List (PySem.W.Frag → Bool)) (fn : List He.DefD) (K : PySem.W.Frag) : He.AlD := (((fa.all fun f => f.ok K) && ex.all fun f => f K) && fn.all fun d => d.ok K, fn.map fun d => He.fnW K d.at_)
def SaysZ (fa : List He.Fa) (ex : List (PySem.W.Frag → Bool)) (fn : List He.DefD) (K : PySem.W.Frag) : Prop := obsZ fa ex fn K = He.valD fn
def obsZG (n : Nat) (fa : List He.Fa) (ex : List (PySem.W.Frag → Bool)) (fn : List He.DefD) (g : Addr → Option Obj) : He.AlD := obsZ fa ex fn (He.frG g (He.asD g n))
def hookZ (n : Nat) (fa : List He.Fa) (ex : List (PySem.W.Frag → Bool)) (fn : List He.DefD) : PySem.W.Hook where
  α := He.AlD
  obs := fun s => obsZG n fa ex fn s.heap.get?
  val := fun _ => He.valD fn
  says := fun _ h => ∃ K : PySem.W.Frag, K.In h ∧ SaysZ fa ex fn K
  of := fun _ _ e => ⟨_, He.frG_in, e⟩
  keeps := fun _ _ _ ⟨K, hK, c⟩ k => ⟨K, PySem.W.Frag.In.keeps hK k, c⟩
theorem obsZG_eq {n : Nat} {fa : List He.Fa} {ex : List (PySem.W.Frag → Bool)} {fn : List He.DefD} {g : Addr → Option Obj} {s : Shared} (h : ∀ a, g a = s.heap.get? a) : obsZG n fa ex fn g = (hookZ n fa ex fn).obs s := by
  have e : g = s.heap.get? := funext h
  rw [e] <;> rfl
section
variable {fa : List He.Fa} {ex : List (PySem.W.Frag → Bool)} {fn : List He.DefD} {K : PySem.W.Frag}
theorem SaysZ.a1 (c : SaysZ fa ex fn K) : ((fa.all fun f => f.ok K) && ex.all fun f => f K) = true ∧ (fn.all fun d => d.ok K) = true :=
  He.ba (show (((fa.all fun f => f.ok K) && ex.all fun f => f K) && fn.all fun d => d.ok K) = true from congrArg (fun z : He.AlD => z.1) c)
theorem SaysZ.fact (c : SaysZ fa ex fn K) (i : Nat) {f : He.Fa} (h : fa[i]? = some f := by rfl) : f.ok K = true :=
  List.all_eq_true.mp (He.ba c.a1.1).1 f (List.mem_of_getElem? h)
theorem SaysZ.ext (c : SaysZ fa ex fn K) (i : Nat) {f : PySem.W.Frag → Bool} (h : ex[i]? = some f := by rfl) : f K = true :=
  List.all_eq_true.mp (He.ba c.a1.1).2 f (List.mem_of_getElem? h)
theorem SaysZ.def_ (c : SaysZ fa ex fn K) (i : Nat) {d : He.DefD} (h : fn[i]? = some d := by rfl) : ∃ fd, FunD K d.name d.qual d.params d.body d.scope (d.dvs K) (d.kws K) (He.fAd K d.at_) fd := by
  have c2 := c.a1.2
  have e : fn.map (fun d => He.fnW K d.at_) = fn.map He.DefD.val := congrArg (fun z : He.AlD => z.2) c
  have e2 : (fn.map fun d => He.fnW K d.at_)[i]? = (fn.map He.DefD.val)[i]? := by rw [e]
  rw [List.getElem?_map, List.getElem?_map, h] at e2
  exact He.DefD.funD (Option.some.inj e2) (List.all_eq_true.mp c2 d (List.mem_of_getElem? h))
end
/-- a def of the top as a datum -/
def dTop (x : Str) (st : Stmt) (kwd : List (Str × He.Dv) := []) : He.DefD := ⟨(x, none), x, x, defArgs st, defBody st, defScope st, [], kwd⟩
def dMet (C m q : Str) (st : Stmt) : He.DefD := ⟨(C, some m), m, q, defArgs st, defBody st, defScope st, [], []⟩
theorem SaysZ.fn0 {fa : List He.Fa} {ex : List (PySem.W.Frag → Bool)} {fn : List He.DefD} {K : PySem.W.Frag} {h : Heap} {mg : Str → Option Value} (c : SaysZ fa ex fn K) (X : K.In h) (G : h.Ns mainGlobals mg) {x : Str} {st : Stmt} {kwd : List (Str × He.Dv)} (i j : Nat)
    (hi : fn[i]? = some (dTop x st kwd) := by rfl) (hj : fa[j]? = some (.glo x) := by rfl) : Fn0 K mg x st (kwd.map fun q => (q.1, q.2.v K)) := by
  obtain ⟨fd, F⟩ := c.def_ i hi
  exact ⟨_, fd, F, He.glo_ok X G (c.fact j hj)⟩
theorem SaysZ.mt0 {fa : List He.Fa} {ex : List (PySem.W.Frag → Bool)} {fn : List He.DefD} {K : PySem.W.Frag} (c : SaysZ fa ex fn K) {C m q : Str} {st : Stmt} (i j : Nat)
    (hi : fn[i]? = some (dMet C m q st) := by rfl) (hj : fa[j]? = some (.meth C m) := by rfl) : Mt0 K (He.ga K C) m q st := by
  obtain ⟨fd, F⟩ := c.def_ i hi
  exact ⟨_, fd, F, He.meth_ok (c.fact j hj)⟩
/-- what isinstance asks of a class of the text -/
def isiB (x : Str) (K : PySem.W.Frag) : Bool := (decide (PySem.W.findIn K (.ref (He.ga K x)) "__class__" = some (some (.builtin "object.__class__"))) && decide (PySem.W.specialIn K (.builtin "object.__class__") "__get__" = some (some (.builtin "getset_descriptor.__get__")))) &&
  (decide (PySem.W.takesIn K (.builtin "object.__class__") = some true) && decide (PySem.W.mroIn K (He.ga K x) (.type "object") = some true))
def neB (x : Str) (K : PySem.W.Frag) : Bool := decide (PySem.W.findIn K (.ref (He.ga K x)) "__ne__" = some (some (.builtin "object.__ne__")))
/-- isinstance(an instance of the class at C, that class) -/
structure Isi (K : Frag) (C : Addr) : Prop where
  cl : PySem.W.findIn K (.ref C) "__class__" = some (some (.builtin "object.__class__"))
  ge : PySem.W.specialIn K (.builtin "object.__class__") "__get__" = some (some (.builtin "getset_descriptor.__get__"))
  tk : PySem.W.takesIn K (.builtin "object.__class__") = some true
  mr : PySem.W.mroIn K C (.type "object") = some true
theorem isi_ok {x : Str} {K : PySem.W.Frag} (h : isiB x K = true) : Isi K (He.ga K x) := by
  unfold isiB at h
  simp only [Bool.and_eq_true, decide_eq_true_eq] at h
  exact ⟨h.1.1, h.1.2, h.2.1, h.2.2⟩
theorem ne_ok {x : Str} {K : PySem.W.Frag} (h : neB x K = true) : PySem.W.findIn K (.ref (He.ga K x)) "__ne__" = some (some (.builtin "object.__ne__")) := of_decide_eq_true h
section
variable {X : Cx} {Γ : List Sl} {a b : Expr} {pos p : Pos} {α : Type} {x : α} {C : Addr} {fl : α → List (Str × Fd)} {n : Str}
theorem eb_isiOwn {p2 : Pos} (hm : X.mg "isinstance" = none) (ha : EV X a Γ (rIns C fl) x) (hc : Cls X.K C) (hi : Isi X.K C) (hn : X.mg n = some (.ref C)) (hg2 : Gl X n := by rfl) (hd2 : (n == ("__debug__" : Str)) = false := by decide) (hg : Gl X "isinstance" := by rfl)
    (hs : starEach [a, .Name n p2] X.env = (false, eval a X.env) :: starEach [.Name n p2] X.env := by rfl) (hs2 : starEach [.Name n p2] X.env = [(false, eval (.Name n p2) X.env)] := by rfl) (hpl : (backTo pos (starEach [.Name n p2] X.env)).any (·.1) = false := by rfl) :
    EV X (.Call (.Name "isinstance" p) [a, .Name n p2] [] pos) Γ rBool true :=
  ez_b2 (P2 := ⟨fun _ _ _ v => v = .ref C, fun _ h => h⟩) call_isi hm (by decide +kernel) ha (PE.imp (pe_glob hg2 hn (v := .ref C) rfl hd2) fun σ H Q ⟨F0, H0, F, ok, q⟩ => q _ F H (Gr.refl ok.sub) rfl)
    (fun F H v w Q s ⟨t, dx, vs, ev, ht, fo⟩ h2 z => ⟨v, w, .ref C, .ref C, true, rfl, by rw [h2]; exact .own C, by rw [ev]; exact .base (.ins (s _ _ ht) hc hi.cl hi.ge hi.tk hi.mr), by unfold PySem.W.kitOne; rw [if_pos (by simp)], z _ F H (Gr.refl s) rfl⟩) hg (by decide) (by decide) hs hs2 hpl
end
end Z

set_option Elab.async false
set_option linter.all false
set_option maxRecDepth 100000
set_option maxHeartbeats 4000000
/-! Zed: tuple(range(n)), list(range(n)). -/
namespace Z
open PySem PySem.Spec PyProof.Rows L2
section
variable {ρ : Type} {X : Cx} {Γ : List Sl} {a : Expr} {pos p p2 p3 : Pos}
theorem rgV_rng (n : Nat) : rgV 0 n = (rng 0 n).map V.int := by
  unfold rgV rng
  rw [List.map_map]
  have e : ((n : Int) - 0).toNat = n := by omega
  rw [e]
  rfl
theorem ev_tupRg {i : Int} (n : Nat) (hc : X.calm = true) (hm : X.mg "tuple" = none) (hm2 : X.mg "range" = none) (h : EV X a Γ rInt i) (hi : i = n) (hn : n ≤ 16777216) (hg : Gl X "tuple" := by rfl) (hg2 : Gl X "range" := by rfl)
    (na : starEach [a] X.env = (false, eval a X.env) :: starEach [] X.env := by rfl) (nb : starEach [.Call (.Name "range" p) [a] [] p2] X.env = (false, eval (.Call (.Name "range" p) [a] [] p2) X.env) :: starEach [] X.env := by rfl) :
    EV X (.Call (.Name "tuple" p3) [.Call (.Name "range" p) [a] [] p2] [] pos) Γ (rT rInt) (rng 0 n) :=
  PE.imp (pe_tupRg hc hg hm (prg_1 hg2 hm2 h na) nb) fun σ H Q ⟨F0, H0, F, ok, q⟩ => ⟨F0, H0, F, ok, fun v F1 H1 g1 r => ⟨(n : Int), by rw [show v = _ from r, hi], RgOk.of_le (by omega) (by omega) (by omega) (by omega), fun t ht => by
    refine q _ _ _ (g1.trans (Gr.put g1.sub ht)) ?_
    exact ⟨t, _, rfl, .inl (.inl upd_same), by rw [rgV_rng]; exact PL.of_ints _⟩⟩⟩
theorem eo_lstRg {i : Int} (n : Nat) (hc : X.calm = true) (hm : X.mg "list" = none) (hm2 : X.mg "range" = none) (h : EV X a Γ rInt i) (hi : i = n) (hn : n ≤ 16777216) (hg : Gl X "list" := by rfl) (hg2 : Gl X "range" := by rfl)
    (na : starEach [a] X.env = (false, eval a X.env) :: starEach [] X.env := by rfl) (nb : starEach [.Call (.Name "range" p) [a] [] p2] X.env = (false, eval (.Call (.Name "range" p) [a] [] p2) X.env) :: starEach [] X.env := by rfl) :
    EO X (.Call (.Name "list" p3) [.Call (.Name "range" p) [a] [] p2] [] pos) Γ (.ol rInt (rng 0 n)) :=
  PE.imp (pe_listRg hc hg hm (prg_1 hg2 hm2 h na) nb) fun σ H Q ⟨F0, H0, F, ok, q⟩ => ⟨F0, H0, F, ok, fun v F1 H1 g1 r => ⟨(n : Int), by rw [show v = _ from r, hi], RgOk.of_le (by omega) (by omega) (by omega) (by omega), fun t ht => by
    refine q t _ F1 _ (g1.trans (Gr.hold g1.sub ht)) (none_of_same g1.sub ht) (none_of_same g1.hh ht) upd_same ⟨_, rfl, ?_⟩
    rw [rgV_rng]
    exact PL.of_ints _⟩⟩
variable {e : Expr} {es : List Expr}
theorem eb_call {n : Str} {k : Nat} {ι : Type} {As : ι → List Sl} {pre : ι → Prop} {m : ι → Bool} (G : Df X.prog X.w X.K X.mg X.base k n As pre (fun _ => rBool) m) (hr : Room k X.A) (a : ι) (ha : ES X (e :: es) Γ (As a)) (hp : pre a)
    (hg : Gl X n := by rfl) (hk : (n == ("super" : Str)) = false := by decide) (hdb : (n == ("__debug__" : Str)) = false := by decide) (he : starEach (e :: es) X.env = (false, eval e X.env) :: starEach es X.env := by rfl) (hpl : (backTo pos (starEach es X.env)).any (·.1) = false := by rfl)
    (ht : ∀ whole, isTrue (.Call (.Name n p) (e :: es) [] pos) X.env whole = (do let v ← whole; standAt pos; holding [v] (truthy v)) := by intro _; rfl) :
    EB X (.Call (.Name n p) (e :: es) [] pos) Γ (m a) := EB.of (ev_call G hr a ha hp (hg := hg) (hdb := hdb) (he := he) (hpl := hpl)) ht
theorem ev_cal {n : Str} {k : Nat} {ι ρ : Type} {As : ι → List Sl} {pre : ι → Prop} {c : Rp ρ} {m : ι → ρ} {y : ρ} (G : Df X.prog X.w X.K X.mg X.base k n As pre (fun _ => c) m) (hr : Room k X.A) (a : ι) (ha : ES X (e :: es) Γ (As a)) (hp : pre a) (hy : m a = y := by rfl)
    (hg : Gl X n := by rfl) (hk : (n == ("super" : Str)) = false := by decide) (hdb : (n == ("__debug__" : Str)) = false := by decide) (he : starEach (e :: es) X.env = (false, eval e X.env) :: starEach es X.env := by rfl) (hpl : (backTo pos (starEach es X.env)).any (·.1) = false := by rfl) :
    EV X (.Call (.Name n p) (e :: es) [] pos) Γ c y := hy ▸ ev_call G hr a ha hp (hg := hg) (hdb := hdb) (he := he) (hpl := hpl)
theorem eb_cal {n : Str} {k : Nat} {ι : Type} {As : ι → List Sl} {pre : ι → Prop} {m : ι → Bool} {y : Bool} (G : Df X.prog X.w X.K X.mg X.base k n As pre (fun _ => rBool) m) (hr : Room k X.A) (a : ι) (ha : ES X (e :: es) Γ (As a)) (hp : pre a) (hy : m a = y := by rfl)
    (hg : Gl X n := by rfl) (hk : (n == ("super" : Str)) = false := by decide) (hdb : (n == ("__debug__" : Str)) = false := by decide) (he : starEach (e :: es) X.env = (false, eval e X.env) :: starEach es X.env := by rfl) (hpl : (backTo pos (starEach es X.env)).any (·.1) = false := by rfl)
    (ht : ∀ whole, isTrue (.Call (.Name n p) (e :: es) [] pos) X.env whole = (do let v ← whole; standAt pos; holding [v] (truthy v)) := by intro _; rfl) :
    EB X (.Call (.Name n p) (e :: es) [] pos) Γ y := hy ▸ eb_call G hr a ha hp (hg := hg) (hk := hk) (hdb := hdb) (he := he) (hpl := hpl) (ht := ht)
theorem ev_mak {C : Addr} {n : Str} {k : Nat} {ι α : Type} {As : ι → List Sl} {pre : ι → Prop} {c : Rp α} {m : ι → α} {y : α} (G : DfC X.prog X.w X.K X.mg X.base k n C As pre c m) (hr : Room (k + 1) X.A) (a : ι) (ha : ES X (e :: es) Γ (As a)) (hp : pre a) (hy : m a = y := by rfl)
    (hg : Gl X n := by rfl) (hdb : (n == ("__debug__" : Str)) = false := by decide) (he : starEach (e :: es) X.env = (false, eval e X.env) :: starEach es X.env := by rfl) (hpl : (backTo pos (starEach es X.env)).any (·.1) = false := by rfl) :
    EV X (.Call (.Name n p) (e :: es) [] pos) Γ c y := hy ▸ ev_make G hr a ha hp (hg := hg) (hdb := hdb) (he := he) (hpl := hpl)
end
end Z

set_option Elab.async false
set_option linter.all false
set_option maxRecDepth 100000
set_option maxHeartbeats 4000000
/-! Zed: a dict of open lists, each list reached through a name that stands for it. -/
namespace Z
open PySem PySem.Spec PyProof.Rows L2
def rAd : Rp Addr := ⟨fun _ _ v a => v = .ref a, fun _ h => h⟩
/-- a is no slot's cell -/
def NoCel (σ : St) (Γ : List Sl) (a : Addr) : Prop := ∀ (j : Nat) (s : Sl), Γ[j]? = some s → s.cel = true → σ[j]? ≠ some (some (.ref a))
section
variable {K : Frag} {F0 H0 F H F' H' : Hp} {σ : St} {Γ : List Sl}
theorem upd_id {H : Hp} {l : Addr} {o : HO} (h : H l = some o) : upd H l o = H := by
  funext b
  by_cases e : b = l
  · subst e
    rw [upd_same, h]
  · rw [upd_ne e]
theorem Ok.writeX (k : Ok K F0 H0 F H σ Γ) {a : Addr} {ho : HO} (hF : F a = none) (h0 : H0 a = none) (n : NoCel σ Γ a) : Ok K F0 H0 F (upd H a ho) σ Γ := by
  refine ⟨⟨same_upd2 k.gr.hh h0, k.gr.ff, same_upd2 k.gr.sub hF, k.gr.new⟩, k.len, fun j t hj => ?_, k.dis⟩
  obtain ⟨o', e, q'⟩ := k.sl j t hj
  refine ⟨o', e, ?_⟩
  by_cases ct : t.cel = true
  · obtain ⟨l2, e2, c2⟩ := q'.cell ct
    obtain ⟨ho2, h2, q2⟩ := c2.o
    have nl : l2 ≠ a := fun z => by
      subst z
      exact n j t hj ct (e2 ▸ e)
    exact slOk.of_cell ct e2 ⟨c2.f, c2.h0, ⟨ho2, by rw [upd_ne nl]; exact h2, q2⟩, c2.pin⟩
  · cases t with
    | un => trivial
    | v c x => exact q'
    | ol _ _ => exact absurd rfl ct
    | od _ _ => exact absurd rfl ct
    | oc _ _ _ => exact absurd rfl ct
theorem Ok.freezeX (k : Ok K F0 H0 F H σ Γ) {a : Addr} {ho : HO} (hF : F a = none) (h0 : H0 a = none) (hH : H a = some ho) (n : NoCel σ Γ a) : Ok K F0 H0 (upd F a ho) H σ Γ := by
  have sf : Same F (upd F a ho) := same_upd hF
  refine ⟨⟨k.gr.hh, k.gr.ff.trans sf, fun b o e => ?_, fun b o e => ?_⟩, k.len, fun j t hj => ?_, k.dis⟩
  · by_cases hb : b = a
    · subst hb
      rw [upd_same] at e
      cases e
      exact hH
    · rw [upd_ne hb] at e
      exact k.gr.sub _ _ e
  · by_cases hb : b = a
    · subst hb
      exact .inr h0
    · rw [upd_ne hb] at e
      exact k.gr.new _ _ e
  · obtain ⟨o', e, q'⟩ := k.sl j t hj
    refine ⟨o', e, ?_⟩
    by_cases ct : t.cel = true
    · obtain ⟨l2, e2, c2⟩ := q'.cell ct
      obtain ⟨ho2, h2, q2⟩ := c2.o
      have nl : l2 ≠ a := fun z => by
        subst z
        exact n j t hj ct (e2 ▸ e)
      exact slOk.of_cell ct e2 ⟨by rw [upd_ne nl]; exact c2.f, c2.h0, ⟨ho2, h2, q2.mono sf⟩, c2.pin⟩
    · cases t with
      | un => trivial
      | v c x =>
        obtain ⟨u, eu, r⟩ := q'
        exact ⟨u, eu, c.mono sf r⟩
      | ol _ _ => exact absurd rfl ct
      | od _ _ => exact absurd rfl ct
      | oc _ _ _ => exact absurd rfl ct
theorem inj_of_nodup {β γ : Type} {f : β → γ} : ∀ {l : List β}, (l.map f).Nodup → ∀ {x y : β}, x ∈ l → y ∈ l → f x = f y → x = y
  | [], _, _, _, h, _, _ => by cases h
  | a :: l, nd, x, y, hx, hy, e => by
    rw [List.map_cons, List.nodup_cons] at nd
    rcases List.mem_cons.mp hx with ex | ux
    · rcases List.mem_cons.mp hy with ey | uy
      · rw [ex, ey]
      · rw [ex] at e
        exact absurd (e ▸ List.mem_map_of_mem uy) nd.1
    · rcases List.mem_cons.mp hy with ey | uy
      · rw [ey] at e
        exact absurd (e ▸ List.mem_map_of_mem ux) nd.1
      · exact inj_of_nodup nd.2 ux uy e
variable {κ α : Type} [DecidableEq κ] {kf : κ → Key} {c : Rp α} {i : Nat} {T : List (κ × Addr × List α)}
def adr (T : List (κ × Addr × List α)) : List (κ × Addr) := T.map fun t => (t.1, t.2.1)
def absW (T : List (κ × Addr × List α)) : List (κ × List α) := T.map fun t => (t.1, t.2.2)
def odA (kf : κ → Key) (T : List (κ × Addr × List α)) : Sl := .od rAd ((adr T).map fun p => (kf p.1, p.2))
structure Wl (K : Frag) (kf : κ → Key) (c : Rp α) (i : Nat) (T : List (κ × Addr × List α)) (F0 H0 F H : Hp) (σ : St) (Γ : List Sl) : Prop where
  hi : i < Γ.length
  ok : Ok K F0 H0 F H σ (Γ.set i (odA kf T))
  nd : (T.map fun t => t.2.1).Nodup
  nk : (T.map fun t => t.1).Nodup
  ln : ∀ t ∈ T, F t.2.1 = none ∧ H0 t.2.1 = none ∧ (∃ vs, H t.2.1 = some (.lst vs) ∧ PL c K F vs t.2.2) ∧ NoCel σ (Γ.set i (odA kf T)) t.2.1
theorem Wl.grow (k : Wl K kf c i T F0 H0 F H σ Γ) (g : Gr F H F' H') : Wl K kf c i T F0 H0 F' H' σ Γ :=
  ⟨k.hi, k.ok.grow g, k.nd, k.nk, fun t ht => by
    obtain ⟨h1, h2, ⟨vs, h3, h4⟩, h5⟩ := k.ln t ht
    exact ⟨g.none h1 h3, h2, ⟨vs, g.hh _ _ h3, PL.mono g.ff h4⟩, h5⟩⟩
/-- the dict's own slot -/
theorem Wl.at (k : Wl K kf c i T F0 H0 F H σ Γ) : (Γ.set i (odA kf T))[i]? = some (.od rAd ((adr T).map fun p => (kf p.1, p.2))) := by rw [List.getElem?_set_self k.hi]; rfl
theorem Wl.un (k : Wl K kf c i T F0 H0 F H σ Γ) (hu : Γ[i]? = some .un) : Ok K F0 H0 F H σ Γ := by
  refine k.ok.weak ?_
  have : ∀ (Γ : List Sl) (i : Nat) (s : Sl), Γ[i]? = some .un → Wk (Γ.set i s) Γ := by
    intro Γ
    induction Γ with
    | nil => intro i s h; simp at h
    | cons a Γ ih =>
      intro i s h
      cases i with
      | zero =>
        have e : a = .un := by simpa using h
        exact ⟨.inl e, Wk.refl _⟩
      | succ i => exact ⟨.inr rfl, ih i s (by simpa using h)⟩
  exact this Γ i _ hu
theorem Wl.setV (k : Wl K kf c i T F0 H0 F H σ Γ) {j : Nat} (hj : j ≠ i) {β : Type} {d : Rp β} {x : β} {u : V} (r : d.r K F u x) : Wl K kf c i T F0 H0 F H (σ.set j (some u)) (Γ.set j (.v d x)) := by
  have e : (Γ.set j (.v d x)).set i (odA kf T) = (Γ.set i (odA kf T)).set j (.v d x) := List.set_comm _ _ hj
  refine ⟨by rw [List.length_set]; exact k.hi, by rw [e]; exact k.ok.setV r, k.nd, k.nk, fun t ht => ?_⟩
  obtain ⟨h1, h2, h3, h5⟩ := k.ln t ht
  refine ⟨h1, h2, h3, ?_⟩
  rw [e]
  intro m s hm cm
  rcases set_get hm with ⟨rfl, rfl, _⟩ | ⟨hne, hm⟩
  · cases cm
  · rw [List.getElem?_set_ne hne]
    exact h5 m s hm cm
/-- less known -/
theorem Wl.weak {Γ' : List Sl} (k : Wl K kf c i T F0 H0 F H σ Γ) (w : Wk Γ Γ') : Wl K kf c i T F0 H0 F H σ Γ' := by
  have w2 : Wk (Γ.set i (odA kf T)) (Γ'.set i (odA kf T)) := Wk.set w
  refine ⟨by rw [← w.len]; exact k.hi, k.ok.weak w2, k.nd, k.nk, fun t ht => ?_⟩
  obtain ⟨h1, h2, h3, h5⟩ := k.ln t ht
  refine ⟨h1, h2, h3, fun m s hm cm => ?_⟩
  rcases w2.get hm with e | h
  · subst e
    cases cm
  · exact h5 m s h cm
theorem dput_fresh {β : Type} {kvs : List (κ × β)} {k : κ} {y : β} (h : dlook kvs k = none) : dput kvs k y = kvs ++ [(k, y)] := by
  unfold dput
  rw [dlook_any, h]
  rfl
theorem dput_old {β : Type} {kvs : List (κ × β)} {k : κ} {y : β} (h : (dlook kvs k).isSome = true) : dput kvs k y = kvs.map fun kv => if kv.1 = k then (kv.1, y) else kv := by
  unfold dput
  rw [dlook_any, h]
  rfl
theorem adr_keys : (adr T).map (·.1) = T.map (·.1) := by
  unfold adr
  rw [List.map_map]
  rfl
theorem absW_keys : (absW T).map (·.1) = T.map (·.1) := by
  unfold absW
  rw [List.map_map]
  rfl
theorem look_both {k : κ} : (dlook (adr T) k).isSome = (dlook (absW T) k).isSome := by
  by_cases h : k ∈ T.map (·.1)
  · rw [dlook_isSome.mpr (by rw [adr_keys]; exact h), dlook_isSome.mpr (by rw [absW_keys]; exact h)]
  · have h1 : (dlook (adr T) k).isSome = false := Bool.eq_false_iff.mpr fun e => h (by rw [← adr_keys]; exact dlook_isSome.mp e)
    have h2 : (dlook (absW T) k).isSome = false := Bool.eq_false_iff.mpr fun e => h (by rw [← absW_keys]; exact dlook_isSome.mp e)
    rw [h1, h2]
/-- a fresh list under a fresh key -/
theorem Wl.new (k : Wl K kf c i T F0 H0 F H σ Γ) (inj : ∀ a b, kf a = kf b → a = b) {j : κ} (hj : dlook (adr T) j = none) {l a : Addr} {ps : List (Key × V)} (hl : σ[i]? = some (some (.ref l))) (g : Gr F H F' H') (hps : H' l = some (.dK ps))
    (haF : F' a = none) (haH : H a = none) (ha : H' a = some (.lst [])) : Wl K kf c i (T ++ [(j, a, [])]) F0 H0 F' (upd H' l (.dK (putK ps (kf j) (.ref a)))) σ Γ := by
  have kg := k.grow g
  obtain ⟨l', ps', hl', hps', _, _, pd⟩ := tvar_cell kg.ok kg.at
  rw [hl] at hl'
  cases hl'
  rw [hps] at hps'
  cases hps'
  have ea : adr (T ++ [(j, a, [])]) = dput (adr T) j a := by
    rw [dput_fresh hj]
    simp [adr]
  have hal : a ≠ l := fun e => by
    subst e
    rw [hps] at ha
    cases ha
  have fresh : ∀ t ∈ T, t.2.1 ≠ a := fun t ht e => by
    obtain ⟨_, _, ⟨vs, h3, _⟩, _⟩ := k.ln t ht
    rw [e, haH] at h3
    cases h3
  have hjk : j ∉ T.map (·.1) := fun h => by
    rw [← adr_keys] at h
    have := dlook_isSome.mpr h
    rw [hj] at this
    cases this
  have cels : ∀ (m : Nat) (s : Sl), (Γ.set i (odA kf (T ++ [(j, a, [])])))[m]? = some s → s.cel = true → ∃ s', (Γ.set i (odA kf T))[m]? = some s' ∧ s'.cel = true := fun m s hm cm => by
    rcases set_get hm with ⟨rfl, rfl, _⟩ | ⟨hne, hm⟩
    · exact ⟨_, k.at, rfl⟩
    · exact ⟨s, by rw [List.getElem?_set_ne hne]; exact hm, cm⟩
  refine ⟨k.hi, ?_, ?_, ?_, fun t ht => ?_⟩
  · have := kg.ok.write (s' := odA kf (T ++ [(j, a, [])])) kg.at rfl hl (ho := .dK (putK ps (kf j) (.ref a))) ⟨_, rfl, by
      rw [ea]
      exact pd_put (c := rAd) inj rfl pd⟩ trivial
    rw [List.set_set] at this
    exact this
  · rw [List.map_append, List.map_cons, List.map_nil, List.nodup_append]
    refine ⟨k.nd, by simp, fun x hx y hy => ?_⟩
    rw [List.mem_singleton] at hy
    subst hy
    obtain ⟨t, ht, rfl⟩ := List.mem_map.mp hx
    exact fresh t ht
  · rw [List.map_append, List.map_cons, List.map_nil, List.nodup_append]
    refine ⟨k.nk, by simp, fun x hx y hy => ?_⟩
    rw [List.mem_singleton] at hy
    subst hy
    exact fun e => hjk (e ▸ hx)
  · rcases List.mem_append.mp ht with ht | ht
    · obtain ⟨h1, h2, ⟨vs, h3, h4⟩, h5⟩ := kg.ln t ht
      have hne : t.2.1 ≠ l := fun e => h5 i _ kg.at rfl (e ▸ hl)
      refine ⟨h1, h2, ⟨vs, by rw [upd_ne hne]; exact h3, h4⟩, fun m s hm cm => ?_⟩
      obtain ⟨s', hs', cs'⟩ := cels m s hm cm
      exact h5 m s' hs' cs'
    · rw [List.mem_singleton] at ht
      subst ht
      refine ⟨haF, none_of_same k.ok.gr.hh haH, ⟨[], by rw [upd_ne hal]; exact ha, .nil⟩, fun m s hm cm e => ?_⟩
      obtain ⟨s', hs', cs'⟩ := cels m s hm cm
      obtain ⟨l2, e2, c2⟩ := k.ok.cell hs' cs'
      rw [e] at e2
      cases e2
      obtain ⟨ho, hh, _⟩ := c2.o
      rw [haH] at hh
      cases hh
def appW (T : List (κ × Addr × List α)) (j : κ) (x : α) : List (κ × Addr × List α) := T.map fun t => if t.1 = j then (t.1, t.2.1, t.2.2 ++ [x]) else t
theorem appW_adr {j : κ} {x : α} : adr (appW T j x) = adr T := by
  unfold adr appW
  rw [List.map_map]
  refine List.map_congr_left fun t _ => ?_
  show ((if t.1 = j then (t.1, t.2.1, t.2.2 ++ [x]) else t).1, (if t.1 = j then (t.1, t.2.1, t.2.2 ++ [x]) else t).2.1) = _
  split <;> rfl
theorem adr_ad : T.map (fun t => t.2.1) = (adr T).map (·.2) := by
  unfold adr
  rw [List.map_map]
  rfl
/-- one more in the list under j -/
theorem Wl.app (k : Wl K kf c i T F0 H0 F H σ Γ) {j : κ} {a : Addr} {xs : List α} (ht0 : (j, a, xs) ∈ T) {vs : List V} {v : V} {x : α} (hv : H a = some (.lst vs)) (r : c.r K F v x) : Wl K kf c i (appW T j x) F0 H0 F (upd H a (.lst (vs ++ [v]))) σ Γ := by
  have eo : odA kf (appW T j x) = odA kf T := by
    unfold odA
    rw [appW_adr]
  obtain ⟨g1, g2, ⟨vs', g3, g4⟩, g5⟩ := k.ln _ ht0
  have ev : vs' = vs := by
    have g3' : H a = some (.lst vs') := g3
    rw [hv] at g3'
    cases g3'
    rfl
  subst ev
  refine ⟨k.hi, by rw [eo]; exact k.ok.writeX g1 g2 g5, by rw [adr_ad, appW_adr, ← adr_ad]; exact k.nd, by rw [← adr_keys, appW_adr, adr_keys]; exact k.nk, fun t ht => ?_⟩
  rw [eo]
  obtain ⟨u, hu, rfl⟩ := List.mem_map.mp ht
  by_cases e : u.1 = j
  · have eu : u = (j, a, xs) := inj_of_nodup k.nk hu ht0 e
    subst eu
    rw [if_pos rfl]
    exact ⟨g1, g2, ⟨_, upd_same, Paired.append g4 (.cons r .nil)⟩, g5⟩
  · rw [if_neg e]
    obtain ⟨h1, h2, ⟨ws, h3, h4⟩, h5⟩ := k.ln u hu
    have hne : u.2.1 ≠ a := fun z => e (by rw [inj_of_nodup k.nd hu ht0 z])
    exact ⟨h1, h2, ⟨ws, by rw [upd_ne hne]; exact h3, h4⟩, h5⟩
/-- all lists frozen, and the dict one of frozen lists -/
theorem Wl.fz (k : Wl K kf c i T F0 H0 F H σ Γ) : ∃ F', Same F F' ∧ Ok K F0 H0 F' H σ (Γ.set i (.od (rL c) ((absW T).map fun p => (kf p.1, p.2)))) := by
  have step : ∀ (U : List (κ × Addr × List α)) (F : Hp), (U.map fun t => t.2.1).Nodup → Ok K F0 H0 F H σ (Γ.set i (odA kf T)) → (∀ t ∈ U, F t.2.1 = none ∧ H0 t.2.1 = none ∧ (∃ vs, H t.2.1 = some (.lst vs) ∧ PL c K F vs t.2.2) ∧ NoCel σ (Γ.set i (odA kf T)) t.2.1) →
      ∃ F', Same F F' ∧ Ok K F0 H0 F' H σ (Γ.set i (odA kf T)) ∧ ∀ t ∈ U, (rL c).r K F' (.ref t.2.1) t.2.2 := by
    intro U
    induction U with
    | nil => intro F _ ok _; exact ⟨F, Same.refl _, ok, fun t ht => by cases ht⟩
    | cons u U ih =>
      intro F nd ok h
      rw [List.map_cons, List.nodup_cons] at nd
      obtain ⟨h1, h2, ⟨vs, h3, h4⟩, h5⟩ := h u (List.mem_cons_self ..)
      have sf : Same F (upd F u.2.1 (.lst vs)) := same_upd h1
      obtain ⟨F', s', ok', q⟩ := ih _ nd.2 (ok.freezeX h1 h2 h3 h5) fun t ht => by
        obtain ⟨g1, g2, ⟨ws, g3, g4⟩, g5⟩ := h t (List.mem_cons_of_mem _ ht)
        have hne : t.2.1 ≠ u.2.1 := fun e => nd.1 (e ▸ List.mem_map_of_mem (f := fun t : κ × Addr × List α => t.2.1) ht)
        exact ⟨by rw [upd_ne hne]; exact g1, g2, ⟨ws, g3, PL.mono sf g4⟩, g5⟩
      refine ⟨F', sf.trans s', ok', fun t ht => ?_⟩
      rcases List.mem_cons.mp ht with rfl | ht
      · exact (rL c).mono s' ⟨t.2.1, vs, rfl, upd_same, PL.mono sf h4⟩
      · exact q t ht
  obtain ⟨F', s', ok', q⟩ := step T F k.nd k.ok k.ln
  obtain ⟨l, ps, hl, hps, _, _, pd⟩ := tvar_cell ok' k.at
  refine ⟨F', s', ?_⟩
  have := ok'.write (s' := .od (rL c) ((absW T).map fun p => (kf p.1, p.2))) k.at rfl hl (ho := .dK ps) ⟨ps, rfl, ?_⟩ trivial
  · rw [upd_id hps, List.set_set] at this
    exact this
  · clear hps step ok' hl k
    unfold adr at pd
    unfold absW
    rw [List.map_map] at pd ⊢
    revert ps
    induction T with
    | nil =>
      intro ps pd
      cases pd
      exact .nil
    | cons t T ih =>
      intro ps pd
      obtain _ | ⟨r, pd⟩ := pd
      refine .cons ⟨r.1, ?_⟩ (ih (fun u hu => q u (List.mem_cons_of_mem _ hu)) _ pd)
      have := q t (List.mem_cons_self ..)
      rw [show _ = _ from r.2]
      exact this
theorem abs_step {j : κ} {x : α} (nk : (T.map fun t => t.1).Nodup) {a : Addr} {xs : List α} (h : (j, a, xs) ∈ T) : absW (appW T j x) = dput (absW T) j ((dlook (absW T) j).getD [] ++ [x]) := by
  have hs : (dlook (absW T) j).isSome = true := dlook_isSome.mpr (by rw [absW_keys]; exact List.mem_map_of_mem (f := fun t : κ × Addr × List α => t.1) h)
  have hl : dlook (absW T) j = some xs := by
    cases e : dlook (absW T) j with
    | none => rw [e] at hs; cases hs
    | some ys =>
      have hm := dlook_mem e
      obtain ⟨t, ht, et⟩ := List.mem_map.mp hm
      have : t = (j, a, xs) := inj_of_nodup nk ht h (congrArg (·.1) et)
      subst this
      cases et
      rfl
  rw [dput_old hs, hl]
  unfold absW appW
  rw [List.map_map, List.map_map]
  refine List.map_congr_left fun t ht => ?_
  show ((if t.1 = j then (t.1, t.2.1, t.2.2 ++ [x]) else t).1, (if t.1 = j then (t.1, t.2.1, t.2.2 ++ [x]) else t).2.2) = if t.1 = j then (t.1, (some xs).getD [] ++ [x]) else (t.1, t.2.2)
  by_cases e : t.1 = j
  · have : t = (j, a, xs) := inj_of_nodup nk ht h e
    subst this
    rw [if_pos rfl, if_pos rfl]
    rfl
  · rw [if_neg e, if_neg e]
end
end Z

set_option Elab.async false
set_option linter.all false
set_option maxRecDepth 100000
set_option maxHeartbeats 4000000
namespace Z
open PySem PySem.Spec PyProof.Rows L2
section
variable {κ α : Type} [DecidableEq κ]
def tW (K : Frag) (kf : κ → Key) (c : Rp α) (i : Nat) (d : List (κ × List α)) (Γ : List Sl) (N : List (κ × List α) → List Sl → Prop) : TS := fun D σ H =>
  ∃ F0 H0 F T, Wl K kf c i T F0 H0 F H σ Γ ∧ absW T = d ∧ ∀ T' Γ' σ' F' H', N (absW T') Γ' → Same F F' → Wl K kf c i T' F0 H0 F' H' σ' Γ' → D.nx σ' H'
abbrev WS (X : Cx) (sts : List Stmt) (kf : κ → Key) (c : Rp α) (i : Nat) (d : List (κ × List α)) (Γ : List Sl) (N : List (κ × List α) → List Sl → Prop) : Prop := PSs X sts (tW X.K kf c i d Γ N)
variable {β : Type} {X : Cx} {kf : κ → Key} {c : Rp α} {i : Nat} {d : List (κ × List α)} {Γ : List Sl} {N : List (κ × List α) → List Sl → Prop} {e a1 a2 a3 : Expr} {rest : List Stmt} {pos p p1 p2 p3 p4 p5 p6 p7 p8 p9 p10 p11 p12 p13 : Pos} {c' : Rp β} {x : β} {y : α} {ck : Rp κ} {k : κ}
theorem ws_nil (h : N d Γ) : WS X [] kf c i d Γ N := PSs.imp pss_nil fun D σ H ⟨F0, H0, F, T, w, e, q⟩ => q T Γ σ F H (e ▸ h) (Same.refl _) w
theorem ws_set (j : Nat) {n : Str} (hj : j ≠ i) (hu : Γ[i]? = some .un) (hN : X.N.Nodup) (he : EV X e Γ c' x) (h : WS X rest kf c i d (Γ.set j (.v c' x)) N) (hi : X.N[j]? = some n := by rfl) (hx : Loc X.env.scope n := by first | exact Or.inl rfl | exact Or.inr rfl)
    (hs : swapsWith e (some (.Name n p)) pos.line X.env = pure false := by rfl) (hf : X.fn n = true ∨ X.env.scope.names.lookup n = some .local := by first | exact .inl rfl | exact .inr rfl) : WS X (.Assign [.Name n p] e pos :: rest) kf c i d Γ N :=
  PSs.imp (pss_cons (ps_set hN hi hx he hs hf) h) fun D σ H ⟨F0, H0, F, T, w, e, q⟩ => ⟨F0, H0, F, w.un hu, fun v F' H' g r => ⟨F0, H0, F', T, (w.grow g).setV hj r, e, fun T' Γ' σ' F'' H'' n s k => q T' Γ' σ' F'' H'' n (g.ff.trans s) k⟩⟩
theorem ws_weak {Γ' : List Sl} (h : WS X rest kf c i d Γ' N) (w : Wk Γ Γ') : WS X rest kf c i d Γ N := PSs.imp h fun D σ H ⟨F0, H0, F, T, k, e, q⟩ => ⟨F0, H0, F, T, k.weak w, e, q⟩
/-- if k not in d: d[k] = []; m = d[k]; m.append(e) -/
theorem ws_alias {kk : Nat} (m : Nat) {n nm : Str} (ky : Ky ck kf) (hr : Room kk X.A) (hN : X.N.Nodup) (hmi : m ≠ i) (hu : Γ[i]? = some .un) (hum : Γ[m]? = some .un) (ha1 : EV X a1 Γ ck k) (ha2 : EV X a2 Γ ck k) (ha3 : EV X a3 Γ ck k) (he : EV X e Γ c y)
    (hz : d.length < 16777216) (hz2 : ((dlook d k).getD []).length < 16777216) (h : WS X rest kf c i (dput d k ((dlook d k).getD [] ++ [y])) Γ N) (hNi : X.N[i]? = some n := by rfl) (hNm : X.N[m]? = some nm := by rfl)
    (hv : Vis X.env.scope n := by first | exact Or.inl rfl | exact Or.inr (Or.inl rfl) | exact Or.inr (Or.inr rfl)) (hd : (n == ("__debug__" : Str)) = false := by decide) (hcd : (n == ("__classdict__" : Str)) = false := by decide)
    (hvm : Vis X.env.scope nm := by first | exact Or.inl rfl | exact Or.inr (Or.inl rfl) | exact Or.inr (Or.inr rfl)) (hdm : (nm == ("__debug__" : Str)) = false := by decide) (hcdm : (nm == ("__classdict__" : Str)) = false := by decide)
    (hm : behindInMarks .NotIn (.Name n p1) = false := by with_unfolding_all rfl) (hs1 : swapsWith (.List [] p4) (some (.Subscript (.Name n p2) a2 p3)) p5.line X.env = pure false := by rfl) (hs3 : NoSl a3 := by intro _ _; rfl)
    (hxm : Loc X.env.scope nm := by first | exact Or.inl rfl | exact Or.inr rfl) (hsm : swapsWith (.Subscript (.Name n p8) a3 p9) (some (.Name nm p7)) p10.line X.env = pure false := by rfl) (hfm : X.fn nm = true ∨ X.env.scope.names.lookup nm = some .local := by first | exact .inl rfl | exact .inr rfl)
    (hbase : attributeBase (.Name nm p11) "append" X.env (eval (.Name nm p11) X.env) = eval (.Name nm p11) X.env := by rfl)
    (hfew : ((backTo p13 (starEach [e] X.env)).all (fun x => !x.1) && (backToKw p13 (keywordEach [] X.env)).all (fun x => x.1.isSome)
      && decide (([e] : List Expr).length + ([] : List Keyword).length + (if ([] : List Keyword).isEmpty then 0 else 1) < 30)) = true := by rfl)
    (hline : (p12.endLine == p13.line) = true := by rfl) (hse : starEach [e] X.env = [(false, eval e X.env)] := by rfl) (hplain : (backTo p13 (starEach [] X.env)).any (·.1) = false := by rfl)
    (hsx : swapsWith (.Call (.Attribute (.Name nm p11) "append" p12) [e] [] p13) none pos.line X.env = pure false := by rfl) :
    WS X (.If (.Compare a1 [.NotIn] [.Name n p1] p) [.Assign [.Subscript (.Name n p2) a2 p3] (.List [] p4) p5] [] p6 :: .Assign [.Name nm p7] (.Subscript (.Name n p8) a3 p9) p10 :: .Expr (.Call (.Attribute (.Name nm p11) "append" p12) [e] [] p13) pos :: rest) kf c i d Γ N := by
  refine PSs.imp (pss_cons (ps_if (pt_cmp (pc_dnotin (hu_of hr) ha1 (pv i hNi hv hd hcd)) hm) (pss_cons (ps_dput (hu_of hr) (pv i hNi hv hd hcd) ha2 (eo_nil (Γ := Γ) (c := c)) hs1) pss_nil) pss_nil)
    (pss_cons (ps_set hN hNm hxm (pe_dget (hu_of hr) (pv i hNi hv hd hcd) ha3 hs3) hsm hfm) (pss_cons (ps_expr (pe_bm PySem.F.plainAttrs_list PySem.F.slot_list_append PySem.F.type_list_append mt_append (pv m hNm hvm hdm hcdm) (ea1 he hse) hbase hfew hline hse hplain) hsx) h))) ?_
  rintro D σ H ⟨F0, H0, F, T, w, ed, q⟩
  -- what stands behind the if
  have tail : ∀ (T2 : List (κ × Addr × List α)) (F2 H2 : Hp) (a : Addr) (xs : List α), Wl X.K kf c i T2 F0 H0 F2 H2 σ Γ → Same F F2 → (k, a, xs) ∈ T2 → xs.length < 16777216 → absW (appW T2 k y) = dput d k ((dlook d k).getD [] ++ [y]) →
      tSeq (tAsg (tDGet (tVar i) (tE X.K Γ (vv ck k))) (gName m)) (tSeq (tDrop (tBM X.K "list" rAppend (tVar m) (tEA X.K Γ [vv c y]))) (tW X.K kf c i (dput d k ((dlook d k).getD [] ++ [y])) Γ N)) D σ H2 := by
    intro T2 F2 H2 a xs w2 s2 hm2 hx eab
    obtain ⟨l, ps, hl, hps, _, _, pd⟩ := tvar_cell w2.ok w2.at
    refine ⟨_, hl, F0, H0, F2, w2.un hu, fun v F3 H3 g3 r3 => ?_⟩
    have ev : v = kV (kf k) := ky.v r3
    subst ev
    have w3 := w2.grow g3
    obtain ⟨l', ps', hl', hps3, _, _, pd3⟩ := tvar_cell w3.ok w3.at
    rw [hl] at hl'
    cases hl'
    have hma : (k, a) ∈ adr T2 := List.mem_map.mpr ⟨_, hm2, rfl⟩
    have hval : valV ps' (kf k) = some (.ref a) := by
      have hs := dlook_isSome.mpr (List.mem_map_of_mem (f := fun t : κ × Addr => t.1) hma)
      rcases pd_look ky.inj (k := k) pd3 with ⟨_, h2⟩ | ⟨u, b, h1, h2, r'⟩
      · rw [h2] at hs
        cases hs
      · have hmb := dlook_mem h2
        obtain ⟨t, ht, et⟩ := List.mem_map.mp hmb
        have : t = (k, a, xs) := inj_of_nodup w2.nk ht hm2 (congrArg (·.1) et)
        subst this
        cases et
        rw [h1, show u = _ from r']
    refine ⟨l, .ref a, rfl, by rw [← hval]; exact DGet.k hps3, ?_⟩
    have hml : m < σ.length := by
      rw [(w3.un hu).len]
      exact (List.getElem?_eq_some_iff.mp hum).1
    obtain ⟨_, _, ⟨vs, hH3, pl⟩, _⟩ := w3.ln _ hm2
    have w4 : Wl X.K kf c i T2 F0 H0 F3 H3 (σ.set m (some (.ref a))) Γ := (w3.setV (d := rAd) (x := a) hmi rfl).weak (by
      have : ∀ (Γ : List Sl) (j : Nat) (s : Sl), Γ[j]? = some .un → Wk (Γ.set j s) Γ := by
        intro Γ
        induction Γ with
        | nil => intro i s h; simp at h
        | cons a Γ ih =>
          intro i s h
          cases i with
          | zero =>
            have e : a = .un := by simpa using h
            exact ⟨.inl e, Wk.refl _⟩
          | succ i => exact ⟨.inr rfl, ih i s (by simpa using h)⟩
      exact this Γ m _ hum)
    refine ⟨.ref a, by rw [List.getElem?_set_self hml], .inl ⟨rfl, vs, SqL.of hH3⟩, F0, H0, F3, w4.un hu, fun us F4 H4 g4 pa => ?_⟩
    obtain _ | ⟨r, pn⟩ := pa
    cases pn
    have w5 := w4.grow g4
    refine ⟨a, vs, _, rfl, rfl, g4.hh _ _ hH3, by rw [Paired.length pl, sizeLine_eq]; exact hx, F0, H0, F4, appW T2 k y, w5.app hm2 (g4.hh _ _ hH3) r, eab, fun T' Γ' σ' F'' H'' n s kx => q T' Γ' σ' F'' H'' n (s2.trans (g3.ff.trans (g4.ff.trans s))) kx⟩
  refine ⟨F0, H0, F, w.un hu, fun v F1 H1 g1 r => ?_⟩
  have w1 := w.grow g1
  obtain ⟨l, ps, hl, hps, _, _, pd⟩ := tvar_cell w1.ok w1.at
  have ev : v = kV (kf k) := ky.v r
  subst ev
  refine ⟨_, hl, l, _, rfl, DGet.k hps, _, rfl, ?_⟩
  have hb := look_both (T := T) (k := k)
  rw [ed] at hb
  rcases pd_look ky.inj (k := k) pd with ⟨h1, h2⟩ | ⟨u, a, h1, h2, r'⟩
  · -- a new key
    rw [h1]
    have hd0 : dlook d k = none := by
      rw [h2] at hb
      cases e : dlook d k with
      | none => rfl
      | some z => rw [e] at hb; cases hb
    refine iteT ⟨F0, H0, F1, w1.un hu, fun a ho F2 H2 g2 haF haH ha ⟨vs, eo, pl⟩ => ?_⟩
    subst eo
    cases pl
    have hl2 := hl
    refine ⟨_, hl2, F0, H0, F2, (w1.grow g2).un hu, fun v2 F3 H3 g3 r3 => ?_⟩
    have ev2 : v2 = kV (kf k) := ky.v r3
    subst ev2
    have g23 := g2.trans g3
    have hps3 := g23.hh _ _ hps
    have hlen : ps.length = d.length := by
      rw [Paired.length pd, List.length_map, ← ed]
      simp [adr, absW]
    refine ⟨l, _, rfl, DPut.k hps3 (by rw [hlen, sizeLine_eq]; exact hz), ?_⟩
    have w3 := w1.new ky.inj h2 hl g23 hps3 (g3.none haF ha) haH (g3.hh _ _ ha)
    have hm2 : (k, a, ([] : List α)) ∈ T ++ [(k, a, [])] := by simp
    refine tail _ _ _ a [] w3 (g1.ff.trans g23.ff) hm2 (by simp) ?_
    rw [abs_step w3.nk hm2]
    have ea : absW (T ++ [(k, a, ([] : List α))]) = d ++ [(k, [])] := by rw [← ed]; simp [absW]
    have hs : dlook (d ++ [(k, ([] : List α))]) k = some [] := by
      rw [dlook_snoc _ _ _ _ hd0, if_pos rfl]
    rw [ea, hs, hd0, dput_fresh hd0, dput_old (by rw [hs]; rfl), List.map_append]
    congr 1
    · refine (List.map_congr_left (g := id) fun t ht => ?_).trans (List.map_id d)
      have : t.1 ≠ k := fun e => by
        have := dlook_isSome.mpr (e ▸ List.mem_map_of_mem (f := fun t : κ × List α => t.1) ht)
        rw [hd0] at this
        cases this
      rw [if_neg this]
      rfl
    · simp
  · rw [h1]
    have hma := dlook_mem h2
    obtain ⟨t, ht, et⟩ := List.mem_map.mp hma
    obtain ⟨t1, t2, t3⟩ := t
    have e1 : k = t1 := (congrArg Prod.fst et).symm
    have e2 : a = t2 := (congrArg Prod.snd et).symm
    subst e1
    subst e2
    have hs : dlook d k = some t3 := by
      have hk : (k, t3) ∈ d := by
        rw [← ed]
        exact List.mem_map.mpr ⟨_, ht, rfl⟩
      have hsm := dlook_isSome.mpr (List.mem_map_of_mem (f := fun t : κ × List α => t.1) hk)
      cases e : dlook d k with
      | none => rw [e] at hsm; cases hsm
      | some z =>
        have hz := dlook_mem e
        have nk : (d.map (·.1)).Nodup := by
          rw [← ed, absW_keys]
          exact w.nk
        have := inj_of_nodup nk hz hk rfl
        cases this
        rfl
    refine iteF (tail T F1 H1 a t3 w1 g1.ff ht (by rw [hs] at hz2; exact hz2) ?_)
    rw [abs_step w.nk ht, ed]
def tWa (X : Cx) (sts : List Stmt) (kf : κ → Key) (c : Rp α) (i : Nat) : TS := fun D σ H => ∃ (d : List (κ × List α)) (Γ : List Sl) (N : List (κ × List α) → List Sl → Prop), WS X sts kf c i d Γ N ∧ tW X.K kf c i d Γ N D σ H
theorem wsa {sts : List Stmt} : PSs X sts (tWa X sts kf c i) := ⟨fun pins s σ H D I ⟨d, Γ, N, h, q⟩ => h.run pins s σ H D I q⟩
theorem set_self {γ : Type _} {l : List γ} {i : Nat} {s : γ} (h : l[i]? = some s) : l.set i s = l := by
  have hl := (List.getElem?_eq_some_iff.mp h).1
  refine List.ext_getElem? fun j => ?_
  by_cases e : i = j
  · subst e
    rw [List.getElem?_set_self hl, h]
  · rw [List.getElem?_set_ne e]
variable {ρ : Type} {O : Out ρ} {iter : Expr} {body : List Stmt} {xs : List β}
/-- a loop that fills a dict of open lists; behind it the lists are frozen -/
theorem ss_forW (j i : Nat) {nj : Str} {pj : Pos} (kf : κ → Key) (c : Rp α) (f : List (κ × List α) → β → List (κ × List α)) (Γ1 : List Sl) (Iv : Nat → List (κ × List α) → Prop) (hi : IT X (.Name nj pj) iter Γ c' xs)
    (h0 : Γ[i]? = some (.od rAd [])) (hw : Wk (Γ.set i .un) Γ1) (hji : j ≠ i) (hN : X.N.Nodup) (hI0 : Iv 0 []) (hI : ∀ m x d, xs[m]? = some x → Iv m d → Iv (m + 1) (f d x))
    (hs : ∀ m x d, xs[m]? = some x → Iv m d → WS X body kf c i d (Γ1.set j (.v c' x)) (fun d' Γ' => d' = f d x ∧ Wk Γ' Γ1))
    (hd : Iv xs.length (xs.foldl f []) → SS X rest (Γ1.set i (.od (rL c) ((xs.foldl f []).map fun p => (kf p.1, p.2)))) O)
    (hNj : X.N[j]? = some nj := by rfl) (hx : Loc X.env.scope nj := by first | exact Or.inl rfl | exact Or.inr rfl) (hfn : X.fn nj = true ∨ X.env.scope.names.lookup nj = some .local := by first | exact .inl rfl | exact .inr rfl)
    (hp : PassesOwn (model X.prog X.w) X.A X.env X.xe := by exact PassesOwn.never) (hc : X.calm = true := by rfl) (hf : ∀ x, foldedSetIterable iter X.env x = pure x := by intro _; rfl) :
    SS X (.For (.Name nj pj) iter body [] pos :: rest) Γ O := by
  have iv : ∀ m, m ≤ xs.length → Iv m ((xs.take m).foldl f []) := by
    intro m
    induction m with
    | zero => intro _; exact hI0
    | succ m ih =>
      intro h
      have hx : xs[m]? = some xs[m] := List.getElem?_eq_getElem h
      rw [foldl_take_succ hx]
      exact hI m _ _ hx (ih (Nat.le_of_lt h))
  refine ss_step (ps_for hp hc hi (pg_name hN hNj hx hfn) (wsa (kf := kf) (c := c) (i := i)) hf) fun F0 H0 F D σ H ok q => ⟨F0, H0, F, ok, fun J F1 H1 g1 wk => ?_⟩
  have hwl := hw.len
  rw [List.length_set] at hwl
  have hil : i < Γ1.length := by
    rw [← hwl]
    exact (List.getElem?_eq_some_iff.mp h0).1
  have w0 : Wl X.K kf c i [] F0 H0 F1 H1 σ Γ1 := by
    refine ⟨hil, (ok.grow g1).weak ?_, List.nodup_nil, List.nodup_nil, fun t ht => by cases ht⟩
    have := Wk.set (i := i) (s := odA kf ([] : List (κ × Addr × List α))) hw
    rw [List.set_set, set_self (l := Γ) (s := odA kf ([] : List (κ × Addr × List α))) h0] at this
    exact this
  refine for_it wk (fun m σ' H' => ∃ F' T, Wl X.K kf c i T F0 H0 F' H' σ' Γ1 ∧ absW T = (xs.take m).foldl f [] ∧ Same F1 F') ⟨F1, [], w0, rfl, Same.refl _⟩ (fun m σ' H' _ ⟨F', T, w, _, s⟩ => s.trans w.ok.sub) (fun m v σ' H' H2 hlt ⟨F', T, w, e, s⟩ yz => ?_) fun σ' H' ⟨F', T, w, e, s⟩ => ?_
  · obtain ⟨F2, y, g2, hy, ry⟩ := yz F' s w.ok.sub
    have hlt := (List.getElem?_eq_some_iff.mp hy).1
    refine ⟨_, _, _, hs m y _ hy (iv m (Nat.le_of_lt hlt)), F0, H0, F2, T, (w.grow g2).setV hji ry, e, fun T' Γ' σ3 F3 H3 h3 s3 k3 => ⟨F3, T', k3.weak h3.2, ?_, (s.trans g2.ff).trans s3⟩⟩
    rw [h3.1, foldl_take_succ hy]
  · obtain ⟨F2, s2, ok2⟩ := w.fz
    rw [e, List.take_length] at ok2
    have h1 := iv xs.length (Nat.le_refl _)
    rw [List.take_length] at h1
    exact ⟨_, O, hd h1, F0, H0, F2, ok2, q.step (g1.ff.trans (s.trans s2))⟩
end
end Z

set_option Elab.async false
set_option linter.all false
set_option maxRecDepth 100000
set_option maxHeartbeats 4000000
namespace Q
open PySem PySem.Spec PyProof.Rows L2 Z
abbrev Row := List Nat
theorem lt1 {a b : Nat} : decide ([a] < [b]) = decide (a < b) := by
  have : ([a] < [b]) ↔ a < b := by simp [List.cons_lt_cons_iff]
  exact decide_eq_decide.mpr this
theorem getD_some {α : Type} {l : List α} {k : Nat} (d : α) (h : k < l.length) : l[k]? = some (l.getD k d) := by
  rw [List.getD_eq_getElem?_getD, List.getElem?_eq_getElem h]
  rfl
@[simp] theorem cut_to {α : Type} (l : List α) (n : Nat) : cut l none (some n) = l.take n := by simp [cut]
@[simp] theorem cut_from {α : Type} (l : List α) (n : Nat) : cut l (some n) none = l.drop n := by simp [cut]
theorem foldl_app {α β : Type} (f : α → β) : ∀ (xs : List α) (acc : List β), xs.foldl (fun a x => a ++ [f x]) acc = acc ++ xs.map f
  | [], acc => by simp
  | x :: xs, acc => by
    rw [List.foldl_cons, foldl_app f xs]
    simp
def isAns (l : List Nat) : Bool := decide (2 ≤ l.length ∧ l.length ≤ 4) && l.all (fun c => decide (97 ≤ c ∧ c ≤ 122)) && decide (l.Pairwise (· < ·))
theorem isAns_iff {l : List Nat} (h : isAns l = true) : (2 ≤ l.length ∧ l.length ≤ 4) ∧ (∀ c ∈ l, 97 ≤ c ∧ c ≤ 122) ∧ l.Pairwise (· < ·) := by
  unfold isAns at h
  simp only [Bool.and_eq_true, decide_eq_true_eq, List.all_eq_true] at h
  exact ⟨h.1.1, h.1.2, h.2⟩
def isRow (l : List Nat) (n : Nat) (r : Row) : Bool := decide (r.length = n) && r.all fun c => decide (c ∈ l)
/-- the different ones in the order of their first places -/
def dkd (xs : List Row) : List (Row × Bool) := xs.foldl (fun d x => dput d x true) []
def dk (xs : List Row) : List Row := (dkd xs).map (·.1)
def diff (xs : List Row) : List Row := srtT (dk xs)
def del (p : Nat) (r : Row) : Row := r.take p ++ r.drop (p + 1)
def grpS (rows : List Row) (p : Nat) (d : List (Row × List Int)) (x : Int) : List (Row × List Int) :=
  dput d (del p (rows.getD x.toNat [])) ((dlook d (del p (rows.getD x.toNat []))).getD [] ++ [x])
def grp (rows : List Row) (p : Nat) : List (Row × List Int) := (rng 0 rows.length).foldl (grpS rows p) []
def knotsAt (rows : List Row) (p : Nat) : List (Int × Row × List Int) := (srtT ((grp rows p).map (·.1))).map fun r => ((p : Int), r, (dlook (grp rows p) r).getD [])
def knots (rows : List Row) : List (Int × Row × List Int) := (rng 0 (rows.getD 0 []).length).foldl (fun acc x => acc ++ knotsAt rows x.toNat) []
def low (a : Nat) (p : Nat) (r : Row) : Row := r.take p ++ [a] ++ r.drop (p + 1)
def lowr (a : Nat) (rows : List Row) (p : Nat) (r : Row) : Row := if low a p r ∈ rows then r else low a p r

theorem dkd_len (xs : List Row) : (dkd xs).length ≤ xs.length := by
  have : ∀ (xs : List Row) (d : List (Row × Bool)), (xs.foldl (fun d x => dput d x true) d).length ≤ d.length + xs.length := by
    intro xs
    induction xs with
    | nil => intro d; simp
    | cons x xs ih =>
      intro d
      have h1 := ih (dput d x true)
      have h2 := dput_len d x true
      simp only [List.foldl_cons, List.length_cons]
      omega
  simpa [dkd] using this xs []
theorem dk_len (xs : List Row) : (dk xs).length ≤ xs.length := by
  unfold dk
  rw [List.length_map]
  exact dkd_len xs
theorem dkd_gen (xs : List Row) : ∀ d : List (Row × Bool), (d.map (·.1)).Nodup → ((xs.foldl (fun d x => dput d x true) d).map (·.1)).Nodup ∧ ∀ y, y ∈ (xs.foldl (fun d x => dput d x true) d).map (·.1) ↔ y ∈ d.map (·.1) ∨ y ∈ xs := by
  induction xs with
  | nil => intro d h; exact ⟨h, fun y => by simp⟩
  | cons x xs ih =>
    intro d h
    obtain ⟨h1, h2⟩ := ih (dput d x true) (dput_nodup x true h)
    refine ⟨h1, fun y => ?_⟩
    rw [List.foldl_cons, h2 y, dput_keys]
    by_cases e : (dlook d x).isSome = true
    · rw [if_pos e]
      have hx := dlook_isSome.mp e
      constructor
      · rintro (h | h)
        · exact .inl h
        · exact .inr (List.mem_cons_of_mem _ h)
      · rintro (h | h)
        · exact .inl h
        · rcases List.mem_cons.mp h with rfl | h
          · exact .inl hx
          · exact .inr h
    · rw [if_neg e, List.mem_append, List.mem_singleton, List.mem_cons, or_assoc]
theorem dk_nodup (xs : List Row) : (dk xs).Nodup := (dkd_gen xs [] List.nodup_nil).1
theorem dk_mem {xs : List Row} {y : Row} : y ∈ dk xs ↔ y ∈ xs := by
  have := (dkd_gen xs [] List.nodup_nil).2 y
  simpa [dk, dkd] using this
theorem nodup_perm_dk {xs : List Row} (h : xs.Nodup) : dk xs = xs := by
  have : ∀ (xs : List Row) (d : List (Row × Bool)), (d.map (·.1) ++ xs).Nodup → (xs.foldl (fun d x => dput d x true) d).map (·.1) = d.map (·.1) ++ xs := by
    intro xs
    induction xs with
    | nil => intro d _; simp
    | cons x xs ih =>
      intro d hd
      have hx : ¬ x ∈ d.map (·.1) := by
        have := (List.nodup_append.mp hd).2.2
        intro m
        exact this x m x (List.mem_cons_self ..) rfl
      have e : (dput d x true).map (·.1) = d.map (·.1) ++ [x] := by
        rw [dput_keys, if_neg (fun h => hx (dlook_isSome.mp h))]
      rw [List.foldl_cons, ih (dput d x true) (by rw [e]; simpa using hd), e]
      simp
  simpa [dk, dkd] using this xs [] (by simpa using h)
theorem diff_nodup (xs : List Row) : (diff xs).Nodup := (srtT_perm _).nodup_iff.mpr (dk_nodup xs)
theorem diff_mem {xs : List Row} {y : Row} : y ∈ diff xs ↔ y ∈ xs := srtT_mem.trans dk_mem
theorem diff_len (xs : List Row) : (diff xs).length ≤ xs.length := by
  unfold diff
  rw [srtT_len]
  exact dk_len xs
theorem diff_of {xs : List Row} (h : xs.Nodup) : diff xs = srtT xs := by rw [diff, nodup_perm_dk h]
theorem grp_len (rows : List Row) (p : Nat) : (grp rows p).length ≤ rows.length := by
  have : ∀ (xs : List Int) (d : List (Row × List Int)), (xs.foldl (grpS rows p) d).length ≤ d.length + xs.length := by
    intro xs
    induction xs with
    | nil => intro d; simp
    | cons x xs ih =>
      intro d
      have h1 := ih (grpS rows p d x)
      have h2 := dput_len d (del p (rows.getD x.toNat [])) ((dlook d (del p (rows.getD x.toNat []))).getD [] ++ [x])
      simp only [List.foldl_cons, List.length_cons]
      unfold grpS at h1 ⊢
      omega
  have h := this (rng 0 rows.length) []
  rw [rng_len] at h
  simpa [grp] using h
theorem knotsAt_len (rows : List Row) (p : Nat) : (knotsAt rows p).length ≤ rows.length := by
  unfold knotsAt
  rw [List.length_map, srtT_len, List.length_map]
  exact grp_len rows p
end Q

set_option Elab.async false
set_option linter.all false
set_option maxRecDepth 100000
set_option maxHeartbeats 4000000
namespace Q
open PySem PySem.Spec PyProof.Rows L2 Z
def lawCell (ns : List Int) (k : Nat) : Int :=
  if k < ns.length then ns.getD k 0 else ((ns.foldl (fun s c => (s * 31 + c % 1000003) % 1000003) 17 + 7) * ((k : Int) + 3) * 69621) % 2147483647
/-! ### digits -/
def digA (s : Int × List Int) (z : Int) : Int × List Int := (s.1 / z, s.2 ++ [s.1 % z])
def digS (s k : Int) : Int := (s * 48271 + 974711 * k + 12345) % 2147483647
def digT (s : Int) : Int := (s * (s / 65537 + 3)) % 2147483629
def digB (zs : List Int) (s : Int × List Int) (k : Int) : Int × List Int := (digS s.1 k, s.2 ++ [digT (digS s.1 k) / 19 % zs.getD k.toNat 1])
def digits (c : Int) (zs : List Int) : List Int :=
  if (10 : Int) ^ 18 ≤ c then (zs.foldl digA (c - 10 ^ 18, [])).2 else ((rng 0 zs.length).foldl (digB zs) (c % 2147483629, [])).2
def PZ (z : Int) : Prop := 0 < z ∧ z < 1073741824
def Digs (ds zs : List Int) : Prop := ds.length = zs.length ∧ ∀ i, i < zs.length → 0 ≤ ds.getD i 0 ∧ ds.getD i 0 < zs.getD i 1
theorem digits_ok {c : Int} {zs : List Int} (h : ∀ z ∈ zs, PZ z) : Digs (digits c zs) zs := by
  have hA : ∀ (n : Nat) (c : Int), n ≤ zs.length → Digs ((zs.take n).foldl digA (c, [])).2 (zs.take n) := by
    intro n c
    induction n with
    | zero => intro _; exact ⟨by simp, fun i hi => by simp at hi⟩
    | succ n ih =>
      intro hn
      have hx : zs[n]? = some zs[n] := List.getElem?_eq_getElem hn
      rw [foldl_take_succ hx]
      obtain ⟨h1, h2⟩ := ih (Nat.le_of_lt hn)
      have hz := h zs[n] (List.getElem_mem hn)
      have e : zs.take (n + 1) = zs.take n ++ [zs[n]] := List.take_succ_eq_append_getElem hn
      rw [e]
      refine ⟨by simp [digA, h1]; omega, fun i hi => ?_⟩
      rw [List.length_append, List.length_singleton] at hi
      have hl : (zs.take n).length = n := by rw [List.length_take]; omega
      by_cases c1 : i < n
      · have := h2 i (by omega)
        simp only [digA, List.getD_eq_getElem?_getD] at this ⊢
        rw [List.getElem?_append_left (by omega), List.getElem?_append_left (by omega)]
        exact this
      · have : i = n := by omega
        subst this
        simp only [digA, List.getD_eq_getElem?_getD]
        rw [List.getElem?_append_right (by omega), List.getElem?_append_right (by omega), h1, hl, Nat.sub_self]
        exact ⟨Int.emod_nonneg _ (by have := hz.1; omega), Int.emod_lt_of_pos _ hz.1⟩
  have hB : ∀ (n : Nat) (c : Int), n ≤ zs.length → Digs (((rng 0 zs.length).take n).foldl (digB zs) (c, [])).2 (zs.take n) := by
    intro n c
    induction n with
    | zero => intro _; exact ⟨by simp, fun i hi => by simp at hi⟩
    | succ n ih =>
      intro hn
      have hx : (rng 0 zs.length)[n]? = some (n : Int) := rng_get.mpr ⟨hn, by simp⟩
      rw [foldl_take_succ hx]
      obtain ⟨h1, h2⟩ := ih (Nat.le_of_lt hn)
      have hz := h zs[n] (List.getElem_mem hn)
      have e : zs.take (n + 1) = zs.take n ++ [zs[n]] := List.take_succ_eq_append_getElem hn
      rw [e]
      refine ⟨by simp [digB, h1]; omega, fun i hi => ?_⟩
      rw [List.length_append, List.length_singleton] at hi
      have hl : (zs.take n).length = n := by rw [List.length_take]; omega
      by_cases c1 : i < n
      · have := h2 i (by omega)
        simp only [digB, List.getD_eq_getElem?_getD] at this ⊢
        rw [List.getElem?_append_left (by omega), List.getElem?_append_left (by omega)]
        exact this
      · have : i = n := by omega
        subst this
        simp only [digB, List.getD_eq_getElem?_getD]
        rw [List.getElem?_append_right (by omega), List.getElem?_append_right (by omega), h1, hl, Nat.sub_self, Int.toNat_natCast, List.getElem?_eq_getElem (show i < zs.length from hn)]
        exact ⟨Int.emod_nonneg _ (by have := hz.1; simp; omega), Int.emod_lt_of_pos _ hz.1⟩
  unfold digits
  split
  · have := hA zs.length (c - 10 ^ 18) (Nat.le_refl _)
    rwa [List.take_length] at this
  · have := hB zs.length (c % 2147483629) (Nat.le_refl _)
    rwa [List.take_length, show (rng 0 zs.length).take zs.length = rng 0 zs.length from List.take_of_length_le (by rw [rng_len]; exact Nat.le_refl _)] at this
/-! ### lots, all rows -/
def lotS (f : List (List Int)) (k : Int) : List (List Int) := f ++ f.map (fun l => l ++ [k])
def lots (n : Nat) : List (List Int) := (rng 0 n).foldl lotS [[]]
def growR (ans : List Nat) (f : List Row) : List Row := f.foldl (fun acc r => acc ++ ans.map fun c => r ++ [c]) []
def allRows (ans : List Nat) (n : Nat) : List Row := (rng 0 n).foldl (fun f _ => growR ans f) [[]]
theorem growR_eq (ans : List Nat) (f : List Row) : growR ans f = f.flatMap fun r => ans.map fun c => r ++ [c] := by
  have : ∀ (f acc : List Row), f.foldl (fun acc r => acc ++ ans.map fun c => r ++ [c]) acc = acc ++ f.flatMap fun r => ans.map fun c => r ++ [c] := by
    intro f
    induction f with
    | nil => intro acc; simp
    | cons r f ih => intro acc; simp [ih]
  have h := this f []
  rw [List.nil_append] at h
  exact h
end Q

set_option Elab.async false
set_option linter.all false
set_option maxRecDepth 100000
set_option maxHeartbeats 4000000
namespace Q
open PySem PySem.Spec PyProof.Rows L2 Z
/-- rows as a web takes them -/
structure GR (ans : List Nat) (n : Nat) (rows : List Row) : Prop where
  isa : isAns ans = true
  pos : 0 < rows.length
  le : rows.length ≤ 32
  n1 : 1 ≤ n
  n6 : n ≤ 6
  row : ∀ r ∈ rows, isRow ans n r = true
theorem isRow_iff {l : List Nat} {n : Nat} {r : Row} : isRow l n r = true ↔ r.length = n ∧ ∀ c ∈ r, c ∈ l := by
  unfold isRow
  simp [List.all_eq_true]
theorem GR.len {ans : List Nat} {n : Nat} {rows : List Row} (g : GR ans n rows) {r : Row} (h : r ∈ rows) : r.length = n := (isRow_iff.mp (g.row r h)).1
theorem GR.getD {ans : List Nat} {n : Nat} {rows : List Row} (g : GR ans n rows) {i : Nat} (h : i < rows.length) : rows.getD i [] ∈ rows := by
  rw [List.getD_eq_getElem?_getD, List.getElem?_eq_getElem h]
  exact List.getElem_mem h
theorem GR.first {ans : List Nat} {n : Nat} {rows : List Row} (g : GR ans n rows) : (rows.getD 0 []).length = n := g.len (g.getD g.pos)
theorem GR.diff {ans : List Nat} {n : Nat} {rows : List Row} (g : GR ans n rows) : GR ans n (Q.diff rows) :=
  ⟨g.isa, by
    have h := Q.diff_mem.mpr (g.getD g.pos)
    cases e : Q.diff rows with
    | nil => rw [e] at h; cases h
    | cons a b => simp, Nat.le_trans (diff_len rows) g.le, g.n1, g.n6, fun r hr => g.row r (diff_mem.mp hr)⟩
def a0 (ans : List Nat) : Nat := ans.getD 0 0
theorem isAns_a0 {ans : List Nat} (h : isAns ans = true) : a0 ans ∈ ans := by
  have := (isAns_iff h).1.1
  unfold a0
  rw [List.getD_eq_getElem?_getD, List.getElem?_eq_getElem (by omega)]
  exact List.getElem_mem _
theorem low_row {ans : List Nat} {n p : Nat} {r : Row} (ha : isAns ans = true) (hp : p < n) (h : isRow ans n r = true) : isRow ans n (low (a0 ans) p r) = true := by
  obtain ⟨h1, h2⟩ := isRow_iff.mp h
  refine isRow_iff.mpr ⟨by simp [low]; omega, fun c hc => ?_⟩
  unfold low at hc
  rcases List.mem_append.mp hc with hc | hc
  · rcases List.mem_append.mp hc with hc | hc
    · exact h2 c (List.mem_of_mem_take hc)
    · rw [List.mem_singleton] at hc
      subst hc
      exact isAns_a0 ha
  · exact h2 c (List.mem_of_mem_drop hc)
theorem lowr_row {ans : List Nat} {n p : Nat} {r : Row} {rows : List Row} (ha : isAns ans = true) (hp : p < n) (h : isRow ans n r = true) : isRow ans n (lowr (a0 ans) rows p r) = true := by
  unfold lowr
  split
  · exact h
  · exact low_row ha hp h
/-- the pushed rows, as they come -/
def pmap (ans : List Nat) (rows : List Row) (p : Nat) : List Row := rows.map (lowr (a0 ans) rows p)
theorem GR.pmap {ans : List Nat} {n p : Nat} {rows : List Row} (g : GR ans n rows) (hp : p < n) : GR ans n (pmap ans rows p) :=
  ⟨g.isa, by rw [Q.pmap, List.length_map]; exact g.pos, by rw [Q.pmap, List.length_map]; exact g.le, g.n1, g.n6, fun r hr => by
    obtain ⟨s, hs, rfl⟩ := List.mem_map.mp hr
    exact lowr_row g.isa hp (g.row s hs)⟩
def pushAt (ans : List Nat) (rows : List Row) (p : Nat) : List Row := diff (pmap ans rows p)
theorem GR.pushAt {ans : List Nat} {n p : Nat} {rows : List Row} (g : GR ans n rows) (hp : p < n) : GR ans n (pushAt ans rows p) := (g.pmap hp).diff
def once (ans : List Nat) (n : Nat) (rows : List Row) : List Row := (rng 0 n).foldl (fun rs p => pushAt ans rs p.toNat) rows
theorem GR.once {ans : List Nat} {n : Nat} {rows : List Row} (g : GR ans n rows) : GR ans n (once ans n rows) := by
  have : ∀ (ps : List Int) (rows : List Row), (∀ p ∈ ps, p.toNat < n) → GR ans n rows → GR ans n (ps.foldl (fun rs p => Q.pushAt ans rs p.toNat) rows) := by
    intro ps
    induction ps with
    | nil => intro rows _ g; exact g
    | cons p ps ih =>
      intro rows h g
      exact ih _ (fun q hq => h q (List.mem_cons_of_mem _ hq)) (g.pushAt (h p (List.mem_cons_self ..)))
  refine this _ rows (fun p hp => ?_) g
  obtain ⟨i, hi⟩ := List.mem_iff_getElem?.mp hp
  have := rng_get.mp hi
  omega
def marks (count : Nat) (lot : List Int) : List Bool := lot.foldl (fun m i => m.set i.toNat true) (List.replicate count false)
def inside (ms : List Int) (marks : List Bool) : List Int := ms.filter fun i => marks.getD i.toNat false
def surp (ks : List (Int × Row × List Int)) (mk : List Bool) (t : Int) : Int := (ks.map fun k => max 0 (((inside k.2.2 mk).length : Int) - t)).sum
end Q

set_option Elab.async false
set_option linter.all false
set_option maxRecDepth 100000
set_option maxHeartbeats 4000000
namespace Q
open PySem PySem.Spec PyProof.Rows L2 Z
/-! ### the knots in plain terms -/
def who (rows : List Row) (p : Nat) (r : Row) (n : Nat) : List Int := (rng 0 n).filter fun j => decide (del p (rows.getD j.toNat []) = r)
theorem rng_succ (n : Nat) : rng 0 (n + 1) = rng 0 n ++ [(n : Int)] := by
  unfold rng
  rw [List.range_succ, List.map_append]
  simp
theorem who_succ (rows : List Row) (p : Nat) (r : Row) (n : Nat) : who rows p r (n + 1) = who rows p r n ++ (if del p (rows.getD n []) = r then [(n : Int)] else []) := by
  unfold who
  rw [rng_succ, List.filter_append]
  congr 1
  by_cases h : del p (rows.getD n []) = r
  · rw [if_pos h]
    simp [-List.getD_eq_getElem?_getD, h]
  · rw [if_neg h]
    simp [-List.getD_eq_getElem?_getD, h]
def grpN (rows : List Row) (p n : Nat) : List (Row × List Int) := (rng 0 n).foldl (grpS rows p) []
theorem grpN_succ (rows : List Row) (p n : Nat) : grpN rows p (n + 1) = grpS rows p (grpN rows p n) n := by
  unfold grpN
  rw [rng_succ, List.foldl_append]
  rfl
theorem grpN_look (rows : List Row) (p : Nat) (r : Row) : ∀ n, dlook (grpN rows p n) r = if who rows p r n = [] then none else some (who rows p r n)
  | 0 => by
    have : who rows p r 0 = [] := rfl
    rw [this, if_pos rfl]
    rfl
  | n + 1 => by
    rw [grpN_succ, who_succ]
    unfold grpS
    rw [dlook_put, Int.toNat_natCast, grpN_look rows p _ n]
    by_cases h : del p (rows.getD n []) = r
    · rw [if_pos h.symm, if_pos h, h, if_neg (show ¬ who rows p r n ++ [(n : Int)] = [] by simp)]
      by_cases e : who rows p r n = []
      · rw [if_pos e, e]
        rfl
      · rw [if_neg e]
        rfl
    · rw [if_neg (fun e => h e.symm), if_neg h, List.append_nil]
      exact grpN_look rows p r n
theorem grp_get (rows : List Row) (p : Nat) (r : Row) : (dlook (grp rows p) r).getD [] = who rows p r rows.length := by
  have h := grpN_look rows p r rows.length
  show (dlook (grpN rows p rows.length) r).getD [] = _
  rw [h]
  by_cases e : who rows p r rows.length = []
  · rw [if_pos e, e]
    rfl
  · rw [if_neg e]
    rfl
theorem grp_nodup (rows : List Row) (p : Nat) : ((grp rows p).map (·.1)).Nodup := by
  have : ∀ (xs : List Int) (d : List (Row × List Int)), (d.map (·.1)).Nodup → ((xs.foldl (grpS rows p) d).map (·.1)).Nodup := by
    intro xs
    induction xs with
    | nil => intro d h; exact h
    | cons x xs ih => intro d h; exact ih _ (dput_nodup _ _ h)
  exact this _ [] List.nodup_nil
theorem who_mem {rows : List Row} {p : Nat} {r : Row} {n : Nat} {i : Int} : i ∈ who rows p r n ↔ (0 ≤ i ∧ i < n) ∧ del p (rows.getD i.toNat []) = r := by
  unfold who
  rw [List.mem_filter, decide_eq_true_iff]
  refine and_congr_left fun _ => ⟨fun h => ?_, fun h => ?_⟩
  · obtain ⟨j, hj⟩ := List.mem_iff_getElem?.mp h
    have := rng_get.mp hj
    omega
  · refine List.mem_of_getElem? (i := i.toNat) (rng_get.mpr ?_)
    omega
theorem grp_key {rows : List Row} {p : Nat} {r : Row} : r ∈ (grp rows p).map (·.1) ↔ r ∈ rows.map (del p) := by
  rw [← dlook_isSome]
  have h := grpN_look rows p r rows.length
  show (dlook (grpN rows p rows.length) r).isSome = true ↔ _
  rw [h]
  constructor
  · intro hs
    by_cases e : who rows p r rows.length = []
    · rw [if_pos e] at hs
      cases hs
    · obtain ⟨i, hi⟩ := List.exists_mem_of_ne_nil _ e
      obtain ⟨h1, h2⟩ := who_mem.mp hi
      refine List.mem_map.mpr ⟨rows.getD i.toNat [], ?_, h2⟩
      rw [List.getD_eq_getElem?_getD, List.getElem?_eq_getElem (show i.toNat < rows.length by omega)]
      exact List.getElem_mem _
  · intro hm
    obtain ⟨s, hs, e⟩ := List.mem_map.mp hm
    obtain ⟨j, hj, rfl⟩ := List.mem_iff_getElem.mp hs
    have : (j : Int) ∈ who rows p r rows.length := who_mem.mpr ⟨by omega, by
      rw [Int.toNat_natCast, List.getD_eq_getElem?_getD, List.getElem?_eq_getElem hj]
      exact e⟩
    rw [if_neg (fun e => by rw [e] at this; cases this)]
    rfl
theorem knotsAt_eq (rows : List Row) (p : Nat) : knotsAt rows p = (srtT ((grp rows p).map (·.1))).map fun r => ((p : Int), r, who rows p r rows.length) := by
  unfold knotsAt
  exact List.map_congr_left fun r _ => by rw [grp_get]
theorem who_len (rows : List Row) (p : Nat) (r : Row) (n : Nat) : (who rows p r n).length ≤ n := by
  have := List.length_filter_le (fun j : Int => decide (del p (rows.getD j.toNat []) = r)) (rng 0 n)
  rw [rng_len] at this
  exact this
theorem foldl_appL {α β : Type} (f : α → List β) : ∀ (xs : List α) (acc : List β), xs.foldl (fun a x => a ++ f x) acc = acc ++ (xs.map f).flatten
  | [], acc => by simp
  | x :: xs, acc => by
    rw [List.foldl_cons, foldl_appL f xs]
    simp
theorem knots_eq (rows : List Row) : knots rows = ((rng 0 (rows.getD 0 []).length).map fun x => knotsAt rows x.toNat).flatten := by
  unfold knots
  rw [foldl_appL (fun x : Int => knotsAt rows x.toNat), List.nil_append]
theorem knots_ms {rows : List Row} {k : Int × Row × List Int} (h : k ∈ knots rows) : k.2.2.length ≤ rows.length ∧ ∀ i ∈ k.2.2, 0 ≤ i ∧ i < rows.length := by
  rw [knots_eq] at h
  obtain ⟨l, hl, hk⟩ := List.mem_flatten.mp h
  obtain ⟨x, _, rfl⟩ := List.mem_map.mp hl
  rw [knotsAt_eq] at hk
  obtain ⟨r, _, rfl⟩ := List.mem_map.mp hk
  exact ⟨who_len _ _ _ _, fun i hi => (who_mem.mp hi).1⟩
theorem knots_len (rows : List Row) : (knots rows).length ≤ (rows.getD 0 []).length * rows.length := by
  have : ∀ xs : List Int, ((xs.map fun x => knotsAt rows x.toNat).flatten).length ≤ xs.length * rows.length := by
    intro xs
    induction xs with
    | nil => simp
    | cons x xs ih =>
      have := knotsAt_len rows x.toNat
      rw [List.map_cons, List.flatten_cons, List.length_append, List.length_cons, Nat.succ_mul]
      omega
  rw [knots_eq]
  have h := this (rng 0 (rows.getD 0 []).length)
  rw [rng_len] at h
  exact h
end Q

set_option Elab.async false
set_option linter.all false
set_option maxRecDepth 100000
set_option maxHeartbeats 4000000
namespace Q
open PySem PySem.Spec PyProof.Rows L2 Z
theorem lots_succ (n : Nat) : lots (n + 1) = lotS (lots n) n := by
  unfold lots
  rw [rng_succ, List.foldl_append]
  rfl
theorem lots_len : ∀ n, (lots n).length = 2 ^ n
  | 0 => rfl
  | n + 1 => by
    rw [lots_succ]
    unfold lotS
    rw [List.length_append, List.length_map, lots_len n, Nat.pow_succ]
    omega
theorem lots_mem : ∀ (n : Nat) (l : List Int), l ∈ lots n → l.length ≤ n ∧ ∀ i ∈ l, 0 ≤ i ∧ i < n
  | 0, l, h => by
    have : l = [] := List.mem_singleton.mp h
    subst this
    exact ⟨Nat.le_refl _, fun i hi => by cases hi⟩
  | n + 1, l, h => by
    rw [lots_succ] at h
    rcases List.mem_append.mp h with h | h
    · obtain ⟨h1, h2⟩ := lots_mem n l h
      exact ⟨by omega, fun i hi => by have := h2 i hi; omega⟩
    · obtain ⟨m, hm, rfl⟩ := List.mem_map.mp h
      obtain ⟨h1, h2⟩ := lots_mem n m hm
      refine ⟨by simp; omega, fun i hi => ?_⟩
      rcases List.mem_append.mp hi with hi | hi
      · have := h2 i hi
        omega
      · rw [List.mem_singleton] at hi
        subst hi
        omega
theorem allRows_succ (ans : List Nat) (n : Nat) : allRows ans (n + 1) = growR ans (allRows ans n) := by
  unfold allRows
  rw [rng_succ, List.foldl_append]
  rfl
theorem growR_len (ans : List Nat) (f : List Row) : (growR ans f).length = f.length * ans.length := by
  rw [growR_eq]
  induction f with
  | nil => simp
  | cons r f ih => rw [List.flatMap_cons, List.length_append, ih, List.length_map, List.length_cons, Nat.succ_mul, Nat.add_comm]
theorem allRows_len (ans : List Nat) : ∀ n, (allRows ans n).length = ans.length ^ n
  | 0 => rfl
  | n + 1 => by rw [allRows_succ, growR_len, allRows_len ans n, Nat.pow_succ]
theorem allRows_row {ans : List Nat} : ∀ {n : Nat} {r : Row}, r ∈ allRows ans n ↔ isRow ans n r = true
  | 0, r => by
    rw [isRow_iff]
    show r ∈ [([] : Row)] ↔ _
    rw [List.mem_singleton]
    constructor
    · rintro rfl
      exact ⟨rfl, fun c hc => by cases hc⟩
    · intro h
      exact List.eq_nil_of_length_eq_zero h.1
  | n + 1, r => by
    rw [allRows_succ, growR_eq, List.mem_flatMap, isRow_iff]
    constructor
    · rintro ⟨s, hs, hr⟩
      obtain ⟨c, hc, rfl⟩ := List.mem_map.mp hr
      obtain ⟨h1, h2⟩ := isRow_iff.mp (allRows_row.mp hs)
      refine ⟨by simp [h1], fun d hd => ?_⟩
      rcases List.mem_append.mp hd with hd | hd
      · exact h2 d hd
      · rw [List.mem_singleton] at hd
        subst hd
        exact hc
    · rintro ⟨h1, h2⟩
      have hne : r ≠ [] := fun e => by rw [e] at h1; simp at h1
      refine ⟨r.dropLast, allRows_row.mpr (isRow_iff.mpr ⟨by rw [List.length_dropLast]; omega, fun c hc => h2 c ((List.dropLast_sublist r).subset hc)⟩), ?_⟩
      exact List.mem_map.mpr ⟨r.getLast hne, h2 _ (List.getLast_mem hne), List.dropLast_concat_getLast hne⟩
/-! ### the law's own mirrors -/
def insD (lot : List Int) : List (Int × Bool) := lot.foldl (fun d i => dput d i true) []
def lsurp (ks : List (Int × Row × List Int)) (lot : List Int) (many : Int) : Int := ks.foldl (fun w k => w + max 0 (((k.2.2.filter fun i => (dlook (insD lot) i).isSome).length : Int) - many)) 0
def proj (ps : List Int) (r : Row) : Row := ps.map fun i => r.getD i.toNat 0
def manyOf (ans : List Nat) (ps : List Int) : Int := ps.foldl (fun m _ => m * ans.length) 1
def isFull (ans : List Nat) (rows : List Row) (ps : List Int) : Bool := decide (((dkd (rows.map (proj ps))).length : Int) = manyOf ans ps)
def fullSets (ans : List Nat) (n : Nat) (rows : List Row) : List (List Int) := (lots n).filter (isFull ans rows)
def lpush (ans : List Nat) (rows : List Row) (p : Nat) : List Row := srtT (pmap ans rows p)
def Closed (ans : List Nat) (n : Nat) (rows : List Row) : Prop := ∀ r ∈ rows, ∀ p, p < n → low (a0 ans) p r ∈ rows
theorem insD_len (lot : List Int) : (insD lot).length ≤ lot.length := by
  have : ∀ (xs : List Int) (d : List (Int × Bool)), (xs.foldl (fun d x => dput d x true) d).length ≤ d.length + xs.length := by
    intro xs
    induction xs with
    | nil => intro d; simp
    | cons x xs ih =>
      intro d
      have h1 := ih (dput d x true)
      have h2 := dput_len d x true
      simp only [List.foldl_cons, List.length_cons]
      omega
  simpa [insD] using this lot []
theorem insD_look (lot : List Int) (i : Int) : (dlook (insD lot) i).isSome = decide (i ∈ lot) := by
  have : ∀ (xs : List Int) (d : List (Int × Bool)), (dlook (xs.foldl (fun d x => dput d x true) d) i).isSome = (decide (i ∈ xs) || (dlook d i).isSome) := by
    intro xs
    induction xs with
    | nil => intro d; simp
    | cons x xs ih =>
      intro d
      rw [List.foldl_cons, ih, dlook_put]
      by_cases h : i = x
      · rw [if_pos h]
        simp [h]
      · rw [if_neg h]
        simp [h]
  rw [insD, this]
  simp [dlook_nil]
end Q

set_option Elab.async false
set_option linter.all false
set_option maxRecDepth 100000
set_option maxHeartbeats 4000000
namespace Q
open PySem PySem.Spec PyProof.Rows L2 Z
/-! ### counting the different ones -/
section
variable {α β γ : Type} [DecidableEq α] [DecidableEq β] [DecidableEq γ]
theorem len_le_of_sub : ∀ {l m : List α}, l.Nodup → (∀ x ∈ l, x ∈ m) → l.length ≤ m.length
  | [], _, _, _ => Nat.zero_le _
  | x :: l, m, nd, h => by
    rw [List.nodup_cons] at nd
    have hx := h x (List.mem_cons_self ..)
    have := len_le_of_sub (m := m.erase x) nd.2 fun y hy => by
      have : y ≠ x := fun e => nd.1 (e ▸ hy)
      exact (List.mem_erase_of_ne this).mpr (h y (List.mem_cons_of_mem _ hy))
    rw [List.length_erase_of_mem hx] at this
    have hp : 0 < m.length := List.length_pos_of_mem hx
    rw [List.length_cons]
    omega
theorem len_eq_of_same {l m : List α} (hl : l.Nodup) (hm : m.Nodup) (h : ∀ x, x ∈ l ↔ x ∈ m) : l.length = m.length :=
  Nat.le_antisymm (len_le_of_sub hl fun x hx => (h x).mp hx) (len_le_of_sub hm fun x hx => (h x).mpr hx)
/-- the different ones -/
def ncl : List α → List α
  | [] => []
  | x :: xs => if x ∈ xs then ncl xs else x :: ncl xs
theorem ncl_mem : ∀ {xs : List α} {x : α}, x ∈ ncl xs ↔ x ∈ xs
  | [], x => by simp [ncl]
  | y :: ys, x => by
    unfold ncl
    split
    · rename_i h
      rw [ncl_mem, List.mem_cons]
      constructor
      · exact .inr
      · rintro (rfl | h')
        · exact h
        · exact h'
    · rw [List.mem_cons, List.mem_cons, ncl_mem]
theorem ncl_nodup : ∀ xs : List α, (ncl xs).Nodup
  | [] => List.nodup_nil
  | x :: xs => by
    unfold ncl
    split
    · exact ncl_nodup xs
    · rename_i h
      exact List.nodup_cons.mpr ⟨fun h' => h (ncl_mem.mp h'), ncl_nodup xs⟩
def cls (f : α → β) (xs : List α) : Nat := (ncl (xs.map f)).length
theorem cls_eq {f : α → β} {g : α → γ} : ∀ {xs : List α}, (∀ r ∈ xs, ∀ s ∈ xs, f r = f s ↔ g r = g s) → cls f xs = cls g xs
  | [], _ => rfl
  | x :: xs, h => by
    have ih := cls_eq (xs := xs) fun r hr s hs => h r (List.mem_cons_of_mem _ hr) s (List.mem_cons_of_mem _ hs)
    have hm : f x ∈ xs.map f ↔ g x ∈ xs.map g := by
      rw [List.mem_map, List.mem_map]
      exact ⟨fun ⟨s, hs, e⟩ => ⟨s, hs, (h s (List.mem_cons_of_mem _ hs) x (List.mem_cons_self ..)).mp e⟩, fun ⟨s, hs, e⟩ => ⟨s, hs, (h s (List.mem_cons_of_mem _ hs) x (List.mem_cons_self ..)).mpr e⟩⟩
    unfold cls at ih ⊢
    rw [List.map_cons, List.map_cons]
    unfold ncl
    by_cases c : f x ∈ xs.map f
    · rw [if_pos c, if_pos (hm.mp c)]
      exact ih
    · rw [if_neg c, if_neg (fun z => c (hm.mpr z)), List.length_cons, List.length_cons, ih]
theorem cls_le {f : α → β} {xs : List α} {m : List β} (h : ∀ r ∈ xs, f r ∈ m) : cls f xs ≤ m.length := by
  refine len_le_of_sub (ncl_nodup _) fun x hx => ?_
  obtain ⟨r, hr, rfl⟩ := List.mem_map.mp (ncl_mem.mp hx)
  exact h r hr
end
theorem dk_cls (f : Row → Row) (rows : List Row) : (dk (rows.map f)).length = cls f rows :=
  len_eq_of_same (dk_nodup _) (ncl_nodup _) fun x => by rw [dk_mem, ncl_mem]
/-! ### rows over two answers -/
theorem low_set {a p : Nat} {r : Row} (h : p < r.length) : low a p r = r.set p a := by
  unfold low
  rw [List.set_eq_take_append_cons_drop, if_pos h]
  simp
theorem set_get_same {r : Row} {p a : Nat} (h : p < r.length) (e : r.getD p 0 = a) : r.set p a = r := by
  subst e
  refine List.ext_getElem? fun j => ?_
  by_cases e : p = j
  · subst e
    rw [List.getElem?_set_self h]
    exact (getD_some 0 h).symm
  · rw [List.getElem?_set_ne e]
theorem getD_set_self {r : Row} {p a : Nat} (h : p < r.length) : (r.set p a).getD p 0 = a := by
  rw [List.getD_eq_getElem?_getD, List.getElem?_set_self h]
  rfl
theorem getD_set_ne {r : Row} {p q a : Nat} (h : p ≠ q) : (r.set p a).getD q 0 = r.getD q 0 := by
  rw [List.getD_eq_getElem?_getD, List.getElem?_set_ne h, ← List.getD_eq_getElem?_getD]
/-- rows of n places over a and b -/
def Bin (a b n : Nat) (rows : List Row) : Prop := ∀ r ∈ rows, r.length = n ∧ ∀ p, p < n → r.getD p 0 = a ∨ r.getD p 0 = b
section
variable {a b n p q : Nat} {rows : List Row}
/-- what a push makes, as a set -/
def Sh (a b p : Nat) (rows : List Row) (x : Row) : Prop := (x.getD p 0 = a ∧ (x ∈ rows ∨ x.set p b ∈ rows)) ∨ (x.getD p 0 = b ∧ x ∈ rows ∧ x.set p a ∈ rows)
theorem lowr_cases {r : Row} : (lowr a rows p r = r ∧ low a p r ∈ rows) ∨ (lowr a rows p r = low a p r ∧ low a p r ∉ rows) := by
  unfold lowr
  split
  · exact .inl ⟨rfl, by assumption⟩
  · exact .inr ⟨rfl, by assumption⟩
theorem sh_of (hab : a ≠ b) (B : Bin a b n rows) (hp : p < n) {r : Row} (hr : r ∈ rows) : Sh a b p rows (lowr a rows p r) := by
  obtain ⟨hl, hv⟩ := B r hr
  have hpl : p < r.length := by omega
  rcases lowr_cases (a := a) (p := p) (rows := rows) (r := r) with ⟨e, hm⟩ | ⟨e, hm⟩
  · rw [e]
    rw [low_set hpl] at hm
    rcases hv p hp with h | h
    · exact .inl ⟨h, .inl hr⟩
    · exact .inr ⟨h, hr, hm⟩
  · rw [e]
    rw [low_set hpl] at hm ⊢
    refine .inl ⟨getD_set_self hpl, .inr ?_⟩
    rcases hv p hp with h | h
    · exact absurd (by rw [set_get_same hpl h]; exact hr) hm
    · rw [List.set_set, set_get_same hpl h]
      exact hr
theorem of_sh (hab : a ≠ b) (B : Bin a b n rows) (hp : p < n) {x : Row} (hx : x.length = n) (h : Sh a b p rows x) : ∃ r ∈ rows, lowr a rows p r = x := by
  have hpl : p < x.length := by omega
  rcases h with ⟨h, hm | hm⟩ | ⟨h, h1, h2⟩
  · refine ⟨x, hm, ?_⟩
    unfold lowr
    rw [if_pos (by rw [low_set hpl, set_get_same hpl h]; exact hm)]
  · by_cases hx2 : x ∈ rows
    · refine ⟨x, hx2, ?_⟩
      unfold lowr
      rw [if_pos (by rw [low_set hpl, set_get_same hpl h]; exact hx2)]
    · refine ⟨x.set p b, hm, ?_⟩
      have e : low a p (x.set p b) = x := by rw [low_set (by rw [List.length_set]; exact hpl), List.set_set, set_get_same hpl h]
      unfold lowr
      rw [e, if_neg hx2]
  · refine ⟨x, h1, ?_⟩
    unfold lowr
    rw [if_pos (by rw [low_set hpl]; exact h2)]
theorem lowr_len {r : Row} (h : p < r.length) : (lowr a rows p r).length = r.length := by
  rcases lowr_cases (a := a) (p := p) (rows := rows) (r := r) with ⟨e, _⟩ | ⟨e, _⟩
  · rw [e]
  · rw [e, low_set h, List.length_set]
theorem lowr_inj (hab : a ≠ b) (B : Bin a b n rows) (hp : p < n) {r s : Row} (hr : r ∈ rows) (hs : s ∈ rows) (e : lowr a rows p r = lowr a rows p s) : r = s := by
  obtain ⟨hl, hv⟩ := B r hr
  obtain ⟨hl', hv'⟩ := B s hs
  have h1 : p < r.length := by omega
  have h2 : p < s.length := by omega
  rcases lowr_cases (a := a) (p := p) (rows := rows) (r := r) with ⟨e1, m1⟩ | ⟨e1, m1⟩ <;> rcases lowr_cases (a := a) (p := p) (rows := rows) (r := s) with ⟨e2, m2⟩ | ⟨e2, m2⟩
  · rw [← e1, ← e2, e]
  · rw [e1, e2] at e
    exact absurd (e ▸ hr) m2
  · rw [e1, e2] at e
    exact absurd (e ▸ hs) m1
  · rw [e1, e2, low_set h1, low_set h2] at e
    rw [low_set h1] at m1
    rw [low_set h2] at m2
    have hb : r.getD p 0 = b := (hv p hp).resolve_left fun h => m1 (by rw [set_get_same h1 h]; exact hr)
    have hb' : s.getD p 0 = b := (hv' p hp).resolve_left fun h => m2 (by rw [set_get_same h2 h]; exact hs)
    have := congrArg (fun l : Row => l.set p b) e
    rw [List.set_set, List.set_set, set_get_same h1 hb, set_get_same h2 hb'] at this
    exact this
/-- closed below at q -/
def Dc (a q : Nat) (rows : List Row) : Prop := ∀ r ∈ rows, r.set q a ∈ rows
theorem Bin.push (hab : a ≠ b) (B : Bin a b n rows) (hp : p < n) : Bin a b n (rows.map (lowr a rows p)) := by
  intro x hx
  obtain ⟨r, hr, rfl⟩ := List.mem_map.mp hx
  obtain ⟨hl, hv⟩ := B r hr
  have h1 : p < r.length := by omega
  refine ⟨by rw [lowr_len h1, hl], fun m hm => ?_⟩
  rcases lowr_cases (a := a) (p := p) (rows := rows) (r := r) with ⟨e, _⟩ | ⟨e, _⟩
  · rw [e]
    exact hv m hm
  · rw [e, low_set h1]
    by_cases c : p = m
    · subst c
      exact .inl (getD_set_self h1)
    · rw [getD_set_ne c]
      exact hv m hm
theorem push_mem (hab : a ≠ b) (B : Bin a b n rows) (hp : p < n) {x : Row} : x ∈ rows.map (lowr a rows p) ↔ x.length = n ∧ Sh a b p rows x := by
  constructor
  · intro h
    refine ⟨(B.push hab hp x h).1, ?_⟩
    obtain ⟨r, hr, rfl⟩ := List.mem_map.mp h
    exact sh_of hab B hp hr
  · rintro ⟨h1, h2⟩
    exact List.mem_map.mpr (of_sh hab B hp h1 h2)
theorem dc_self (hab : a ≠ b) (B : Bin a b n rows) (hp : p < n) : Dc a p (rows.map (lowr a rows p)) := by
  intro x hx
  obtain ⟨h1, h2⟩ := (push_mem hab B hp).mp hx
  have hpl : p < x.length := by omega
  refine (push_mem hab B hp).mpr ⟨by rw [List.length_set]; exact h1, .inl ⟨getD_set_self hpl, ?_⟩⟩
  rcases h2 with ⟨h, hm | hm⟩ | ⟨h, hm, _⟩
  · exact .inl (by rw [set_get_same hpl h]; exact hm)
  · exact .inr (by rw [List.set_set]; exact hm)
  · exact .inr (by rw [List.set_set, set_get_same hpl h]; exact hm)
theorem dc_other (hab : a ≠ b) (B : Bin a b n rows) (hp : p < n) (hq : q < n) (hpq : p ≠ q) (h : Dc a q rows) : Dc a q (rows.map (lowr a rows p)) := by
  intro x hx
  obtain ⟨h1, h2⟩ := (push_mem hab B hp).mp hx
  refine (push_mem hab B hp).mpr ⟨by rw [List.length_set]; exact h1, ?_⟩
  unfold Sh
  rw [getD_set_ne (Ne.symm hpq)]
  rcases h2 with ⟨e, hm | hm⟩ | ⟨e, hm, hm2⟩
  · exact .inl ⟨e, .inl (h _ hm)⟩
  · exact .inl ⟨e, .inr (by rw [List.set_comm _ _ (Ne.symm hpq)]; exact h _ hm)⟩
  · exact .inr ⟨e, h _ hm, by rw [List.set_comm _ _ (Ne.symm hpq)]; exact h _ hm2⟩
theorem push_id (h : Dc a p rows) (hl : ∀ r ∈ rows, p < r.length) : rows.map (lowr a rows p) = rows := by
  have : ∀ r ∈ rows, lowr a rows p r = r := fun r hr => by
    unfold lowr
    rw [if_pos (by rw [low_set (hl r hr)]; exact h r hr)]
  rw [List.map_congr_left this, List.map_id']
/-! ### projections do not grow -/
def flat (a : Nat) (Q : List Nat) (r : Row) : Row := Q.foldl (fun r q => r.set q a) r
theorem flat_len : ∀ (Q : List Nat) (r : Row), (flat a Q r).length = r.length
  | [], r => rfl
  | q :: Q, r => by
    show (flat a Q (r.set q a)).length = _
    rw [flat_len Q, List.length_set]
theorem flat_get : ∀ (Q : List Nat) (r : Row) (m : Nat), m < r.length → (flat a Q r).getD m 0 = if m ∈ Q then a else r.getD m 0
  | [], r, m, _ => by simp [flat]
  | q :: Q, r, m, h => by
    show (flat a Q (r.set q a)).getD m 0 = _
    rw [flat_get Q _ m (by rw [List.length_set]; exact h)]
    by_cases c : m ∈ Q
    · rw [if_pos c, if_pos (List.mem_cons_of_mem _ c)]
    · rw [if_neg c]
      by_cases e : q = m
      · subst e
        rw [getD_set_self h, if_pos (List.mem_cons_self ..)]
      · rw [getD_set_ne e, if_neg (fun z => by rcases List.mem_cons.mp z with z | z; exact e z.symm; exact c z)]
theorem flat_set : ∀ (Q : List Nat) (r : Row) {m c : Nat}, m ∉ Q → flat a Q (r.set m c) = (flat a Q r).set m c
  | [], r, m, c, _ => rfl
  | q :: Q, r, m, c, h => by
    have hq : m ≠ q := fun e => h (e ▸ List.mem_cons_self ..)
    show flat a Q ((r.set m c).set q a) = (flat a Q (r.set q a)).set m c
    rw [List.set_comm _ _ hq, flat_set Q _ fun z => h (List.mem_cons_of_mem _ z)]
theorem row_ext {r s : Row} (hl : r.length = s.length) (h : ∀ m, m < r.length → r.getD m 0 = s.getD m 0) : r = s := by
  refine List.ext_getElem hl fun m h1 h2 => ?_
  have := h m h1
  rw [List.getD_eq_getElem?_getD, List.getD_eq_getElem?_getD, List.getElem?_eq_getElem h1, List.getElem?_eq_getElem h2] at this
  exact this
theorem flat_in {m c : Nat} {Q : List Nat} {r : Row} (hm : m ∈ Q) : flat a Q (r.set m c) = flat a Q r := by
  refine row_ext (by rw [flat_len, flat_len, List.length_set]) fun k hk => ?_
  rw [flat_len, List.length_set] at hk
  rw [flat_get _ _ _ (by rw [List.length_set]; exact hk), flat_get _ _ _ hk]
  by_cases h : k ∈ Q
  · rw [if_pos h, if_pos h]
  · rw [if_neg h, if_neg h, getD_set_ne (show m ≠ k from fun e => h (e ▸ hm))]
theorem flat_eq {Q : List Nat} {r s : Row} (hr : r.length = n) (hs : s.length = n) : flat a Q r = flat a Q s ↔ ∀ m, m < n → m ∉ Q → r.getD m 0 = s.getD m 0 := by
  constructor
  · intro h m hm hq
    have h1 := flat_get (a := a) Q r m (by omega)
    have h2 := flat_get (a := a) Q s m (by omega)
    rw [if_neg hq] at h1 h2
    rw [← h1, ← h2, h]
  · intro h
    refine row_ext (by rw [flat_len, flat_len, hr, hs]) fun m hm => ?_
    rw [flat_len] at hm
    rw [flat_get _ _ _ hm, flat_get _ _ _ (by omega)]
    by_cases c : m ∈ Q
    · rw [if_pos c, if_pos c]
    · rw [if_neg c, if_neg c]
      exact h m (by omega) c
theorem cls_push (hab : a ≠ b) (B : Bin a b n rows) (hp : p < n) (Q : List Nat) : cls (flat a Q) (rows.map (lowr a rows p)) ≤ cls (flat a Q) rows := by
  by_cases hq : p ∈ Q
  · refine cls_le fun x hx => ?_
    obtain ⟨r, hr, rfl⟩ := List.mem_map.mp hx
    have hpl : p < r.length := by have := (B r hr).1; omega
    have e : flat a Q (lowr a rows p r) = flat a Q r := by
      rcases lowr_cases (a := a) (p := p) (rows := rows) (r := r) with ⟨e, _⟩ | ⟨e, _⟩
      · rw [e]
      · rw [e, low_set hpl, flat_in hq]
    rw [e]
    exact ncl_mem.mpr (List.mem_map_of_mem hr)
  · -- the pushed projection lies in the push of the projection, that is as large as the projection
    have B2 : Bin a b n (ncl (rows.map (flat a Q))) := fun x hx => by
      obtain ⟨r, hr, rfl⟩ := List.mem_map.mp (ncl_mem.mp hx)
      obtain ⟨hl, hv⟩ := B r hr
      refine ⟨by rw [flat_len, hl], fun m hm => ?_⟩
      rw [flat_get _ _ _ (by omega)]
      split
      · exact .inl rfl
      · exact hv m hm
    have key : ∀ r ∈ rows.map (lowr a rows p), flat a Q r ∈ (ncl (rows.map (flat a Q))).map (lowr a (ncl (rows.map (flat a Q))) p) := fun x hx => by
      obtain ⟨h1, h2⟩ := (push_mem hab B hp).mp hx
      have hpl : p < x.length := by omega
      have hg : (flat a Q x).getD p 0 = x.getD p 0 := by rw [flat_get _ _ _ hpl, if_neg hq]
      have inn : ∀ {z : Row}, z ∈ rows → flat a Q z ∈ ncl (rows.map (flat a Q)) := fun hz => ncl_mem.mpr (List.mem_map_of_mem hz)
      refine (push_mem hab B2 hp).mpr ⟨by rw [flat_len, h1], ?_⟩
      unfold Sh
      rw [hg, ← flat_set _ _ hq, ← flat_set _ _ hq]
      rcases h2 with ⟨e, hm | hm⟩ | ⟨e, hm, hm2⟩
      · exact .inl ⟨e, .inl (inn hm)⟩
      · exact .inl ⟨e, .inr (inn hm)⟩
      · exact .inr ⟨e, inn hm, inn hm2⟩
    have := cls_le key
    rw [List.length_map] at this
    exact this
end
end Q

set_option Elab.async false
set_option linter.all false
set_option maxRecDepth 100000
set_option maxHeartbeats 4000000
namespace Q
open PySem PySem.Spec PyProof.Rows L2 Z
/-- a sorted web over two answers -/
structure Sg (ans : List Nat) (n : Nat) (rows : List Row) : Prop where
  g : GR ans n rows
  two : ans.length = 2
  so : rows.Pairwise (· ≤ ·)
  nd : rows.Nodup
def b0 (ans : List Nat) : Nat := ans.getD 1 0
theorem two_ab {ans : List Nat} (h : isAns ans = true) (h2 : ans.length = 2) : ans = [a0 ans, b0 ans] ∧ a0 ans ≠ b0 ans := by
  match ans, h2 with
  | [x, y], _ =>
    refine ⟨rfl, ?_⟩
    have := (isAns_iff h).2.2
    rw [List.pairwise_cons] at this
    have := this.1 y (List.mem_cons_self ..)
    show x ≠ y
    omega
section
variable {ans : List Nat} {n p : Nat} {rows : List Row}
theorem Sg.ab (s : Sg ans n rows) : a0 ans ≠ b0 ans := (two_ab s.g.isa s.two).2
theorem Sg.bin (s : Sg ans n rows) : Bin (a0 ans) (b0 ans) n rows := fun r hr => by
  obtain ⟨h1, h2⟩ := isRow_iff.mp (s.g.row r hr)
  refine ⟨h1, fun m hm => ?_⟩
  have hm2 : r.getD m 0 ∈ r := by
    rw [List.getD_eq_getElem?_getD, List.getElem?_eq_getElem (by omega)]
    exact List.getElem_mem _
  have h3 := h2 _ hm2
  rw [(two_ab s.g.isa s.two).1] at h3
  rcases List.mem_cons.mp h3 with h | h
  · exact .inl h
  · exact .inr (List.mem_singleton.mp h)
theorem Sg.pmap_nd (s : Sg ans n rows) (hp : p < n) : (pmap ans rows p).Nodup := by
  have : ∀ xs : List Row, (∀ x ∈ xs, x ∈ rows) → xs.Nodup → (xs.map (lowr (a0 ans) rows p)).Nodup := by
    intro xs
    induction xs with
    | nil => intro _ _; exact List.nodup_nil
    | cons x xs ih =>
      intro h nd
      rw [List.nodup_cons] at nd
      rw [List.map_cons, List.nodup_cons]
      refine ⟨fun hm => ?_, ih (fun y hy => h y (List.mem_cons_of_mem _ hy)) nd.2⟩
      obtain ⟨y, hy, e⟩ := List.mem_map.mp hm
      have := lowr_inj s.ab s.bin hp (h y (List.mem_cons_of_mem _ hy)) (h x (List.mem_cons_self ..)) e
      exact nd.1 (this ▸ hy)
  exact this rows (fun _ h => h) s.nd
theorem Sg.push_eq (s : Sg ans n rows) (hp : p < n) : lpush ans rows p = pushAt ans rows p := by
  unfold lpush pushAt
  rw [diff_of (s.pmap_nd hp)]
theorem Sg.push (s : Sg ans n rows) (hp : p < n) : Sg ans n (pushAt ans rows p) := by
  refine ⟨s.g.pushAt hp, s.two, ?_, ?_⟩
  · exact srtT_pw _
  · exact diff_nodup _
theorem push_mem2 {x : Row} : x ∈ pushAt ans rows p ↔ x ∈ rows.map (lowr (a0 ans) rows p) := diff_mem
theorem Sg.push_len (s : Sg ans n rows) (hp : p < n) : (pushAt ans rows p).length = rows.length := by
  rw [← s.push_eq hp]
  unfold lpush pmap
  rw [srtT_len, List.length_map]
def oncN (ans : List Nat) (rows : List Row) (m : Nat) : List Row := (rng 0 m).foldl (fun rs p => pushAt ans rs p.toNat) rows
theorem oncN_succ (m : Nat) : oncN ans rows (m + 1) = pushAt ans (oncN ans rows m) m := by
  unfold oncN
  rw [rng_succ, List.foldl_append]
  rfl
theorem oncN_ok (s : Sg ans n rows) : ∀ m, m ≤ n → Sg ans n (oncN ans rows m) ∧ (∀ q, q < m → Dc (a0 ans) q (oncN ans rows m)) ∧ (oncN ans rows m).length = rows.length
  | 0, _ => ⟨s, fun q h => absurd h (Nat.not_lt_zero q), rfl⟩
  | m + 1, h => by
    obtain ⟨s1, d1, l1⟩ := oncN_ok s m (by omega)
    rw [oncN_succ]
    refine ⟨s1.push (by omega), fun q hq => ?_, by rw [s1.push_len (by omega), l1]⟩
    have key : Dc (a0 ans) q ((oncN ans rows m).map (lowr (a0 ans) (oncN ans rows m) m)) := by
      by_cases e : q = m
      · subst e
        exact dc_self s1.ab s1.bin (by omega)
      · exact dc_other s1.ab s1.bin (by omega) (by omega) (fun z => e z.symm) (d1 q (by omega))
    intro x hx
    exact push_mem2.mpr (key x (push_mem2.mp hx))
theorem Sg.once (s : Sg ans n rows) : Sg ans n (once ans n rows) := (oncN_ok s n (Nat.le_refl _)).1
theorem Sg.once_len (s : Sg ans n rows) : (Q.once ans n rows).length = rows.length := (oncN_ok s n (Nat.le_refl _)).2.2
theorem Sg.closed (s : Sg ans n rows) : Closed ans n (Q.once ans n rows) := fun r hr q hq => by
  have h := (oncN_ok s n (Nat.le_refl _)).2.1 q hq r hr
  rw [low_set (by have := s.once.g.len hr; omega)]
  exact h
theorem srt_self (s : Sg ans n rows) : diff rows = rows := by rw [diff_of s.nd, srtT_of s.so]
theorem push_closed (s : Sg ans n rows) (h : Closed ans n rows) (hp : p < n) : pushAt ans rows p = rows := by
  have hl : ∀ r ∈ rows, p < r.length := fun r hr => by have := s.g.len hr; omega
  have e : pmap ans rows p = rows := push_id (fun r hr => by
    have := h r hr p hp
    rwa [low_set (hl r hr)] at this) hl
  unfold pushAt
  rw [e, srt_self s]
theorem Sg.once_once (s : Sg ans n rows) : Q.once ans n (Q.once ans n rows) = Q.once ans n rows := by
  have : ∀ ps : List Int, (∀ p ∈ ps, p.toNat < n) → ps.foldl (fun rs p => pushAt ans rs p.toNat) (Q.once ans n rows) = Q.once ans n rows := by
    intro ps
    induction ps with
    | nil => intro _; rfl
    | cons p ps ih =>
      intro h
      rw [List.foldl_cons, push_closed s.once s.closed (h p (List.mem_cons_self ..))]
      exact ih fun q hq => h q (List.mem_cons_of_mem _ hq)
  exact this _ fun p hp => by
    obtain ⟨i, hi⟩ := List.mem_iff_getElem?.mp hp
    have := rng_get.mp hi
    omega
end
/-! ### the surplus -/
def sK (ks : List (Int × Row × List Int)) : Int := (ks.map fun k => max 0 ((k.2.2.length : Int) - 1)).sum
theorem rng_mem {n : Nat} {i : Int} : i ∈ rng 0 n ↔ 0 ≤ i ∧ i < n := by
  constructor
  · intro h
    obtain ⟨j, hj⟩ := List.mem_iff_getElem?.mp h
    have := rng_get.mp hj
    omega
  · intro h
    refine List.mem_of_getElem? (i := i.toNat) (rng_get.mpr ?_)
    omega
theorem lsurp_eq {ks : List (Int × Row × List Int)} {cnt : Nat} (h : ∀ k ∈ ks, ∀ i ∈ k.2.2, 0 ≤ i ∧ i < cnt) : lsurp ks (rng 0 cnt) 1 = sK ks := by
  have : ∀ (ks : List (Int × Row × List Int)) (w : Int), (∀ k ∈ ks, ∀ i ∈ k.2.2, 0 ≤ i ∧ i < cnt) → ks.foldl (fun w k => w + max 0 (((k.2.2.filter fun i => (dlook (insD (rng 0 cnt)) i).isSome).length : Int) - 1)) w = w + sK ks := by
    intro ks
    induction ks with
    | nil => intro w _; simp [sK]
    | cons k ks ih =>
      intro w h
      have e : (k.2.2.filter fun i => (dlook (insD (rng 0 cnt)) i).isSome) = k.2.2 := List.filter_eq_self.mpr fun i hi => by
        rw [insD_look, decide_eq_true (rng_mem.mpr (h k (List.mem_cons_self ..) i hi))]
      rw [List.foldl_cons, ih _ fun k' hk => h k' (List.mem_cons_of_mem _ hk), e]
      unfold sK
      rw [List.map_cons, List.sum_cons]
      omega
  have h2 := this ks 0 h
  rw [Int.zero_add] at h2
  exact h2
theorem marks_get {cnt : Nat} {i : Nat} (h : i < cnt) : (marks cnt (rng 0 cnt)).getD i false = true := by
  have : ∀ m, m ≤ cnt → ∀ i, i < m → (marks cnt (rng 0 m)).getD i false = true := by
    intro m
    induction m with
    | zero => intro _ i h; omega
    | succ m ih =>
      intro hm i hi
      have e : marks cnt (rng 0 (m + 1)) = (marks cnt (rng 0 m)).set m true := by
        unfold marks
        rw [rng_succ, List.foldl_append]
        rfl
      have hl : (marks cnt (rng 0 m)).length = cnt := by
        have : ∀ (xs : List Int) (m : List Bool), (xs.foldl (fun m i => m.set i.toNat true) m).length = m.length := by
          intro xs
          induction xs with
          | nil => intro m; rfl
          | cons x xs ih => intro m; rw [List.foldl_cons, ih, List.length_set]
        unfold marks
        rw [this, List.length_replicate]
      rw [e, List.getD_eq_getElem?_getD]
      by_cases c : m = i
      · subst c
        rw [List.getElem?_set_self (by omega)]
        rfl
      · rw [List.getElem?_set_ne c, ← List.getD_eq_getElem?_getD]
        exact ih (by omega) i (by omega)
  exact this cnt (Nat.le_refl _) i h
theorem surp_eq {ks : List (Int × Row × List Int)} {cnt : Nat} (h : ∀ k ∈ ks, ∀ i ∈ k.2.2, 0 ≤ i ∧ i < cnt) : surp ks (marks cnt (rng 0 cnt)) 1 = sK ks := by
  unfold surp sK
  congr 1
  refine List.map_congr_left fun k hk => ?_
  have e : inside k.2.2 (marks cnt (rng 0 cnt)) = k.2.2 := List.filter_eq_self.mpr fun i hi => by
    have := h k hk i hi
    exact marks_get (by omega)
  rw [e]
theorem sum_split (f : Int → Row) (L : List Row) (nd : L.Nodup) : ∀ js : List Int, (∀ j ∈ js, f j ∈ L) → (L.map fun r => ((js.filter fun j => decide (f j = r)).length : Int)).sum = js.length
  | [], _ => by
    have : ∀ L : List Row, (L.map fun r => (((([] : List Int).filter fun j => decide (f j = r)).length : Nat) : Int)).sum = 0 := by
      intro L
      induction L with
      | nil => rfl
      | cons x L ih => rw [List.map_cons, List.sum_cons, ih]; rfl
    exact this L
  | j :: js, h => by
    have ih := sum_split f L nd js fun i hi => h i (List.mem_cons_of_mem _ hi)
    have hj := h j (List.mem_cons_self ..)
    have one : ∀ L : List Row, L.Nodup → (L.map fun r => (((j :: js).filter fun i => decide (f i = r)).length : Int)).sum = (L.map fun r => ((js.filter fun i => decide (f i = r)).length : Int)).sum + if f j ∈ L then 1 else 0 := by
      intro L
      induction L with
      | nil => intro _; rfl
      | cons r L ih =>
        intro nd
        rw [List.nodup_cons] at nd
        rw [List.map_cons, List.map_cons, List.sum_cons, List.sum_cons, ih nd.2, List.filter_cons]
        by_cases e : f j = r
        · rw [if_pos (decide_eq_true e), List.length_cons, if_neg (e ▸ nd.1), if_pos (by rw [e]; exact List.mem_cons_self ..)]
          omega
        · rw [if_neg (by simp [e])]
          by_cases c : f j ∈ L
          · rw [if_pos c, if_pos (List.mem_cons_of_mem _ c)]
            omega
          · rw [if_neg c, if_neg (fun z => by rcases List.mem_cons.mp z with z | z; exact e z; exact c z)]
            omega
    rw [one L nd, ih, if_pos hj, List.length_cons]
    omega
theorem sK_app (a b : List (Int × Row × List Int)) : sK (a ++ b) = sK a + sK b := by
  unfold sK
  rw [List.map_append, List.sum_append]
theorem sK_at (rows : List Row) (p : Nat) : sK (knotsAt rows p) = (rows.length : Int) - (cls (del p) rows : Nat) := by
  have hL : (srtT ((grp rows p).map (·.1))).Nodup := (srtT_perm _).nodup_iff.mpr (grp_nodup rows p)
  have hm : ∀ r, r ∈ srtT ((grp rows p).map (·.1)) ↔ r ∈ rows.map (del p) := fun r => srtT_mem.trans grp_key
  have hc : (srtT ((grp rows p).map (·.1))).length = cls (del p) rows := len_eq_of_same hL (ncl_nodup _) fun r => by rw [hm, ncl_mem]
  have hs := sum_split (fun j => del p (rows.getD j.toNat [])) _ hL (rng 0 rows.length) fun j hj => by
    have := rng_mem.mp hj
    refine (hm _).mpr (List.mem_map_of_mem ?_)
    rw [List.getD_eq_getElem?_getD, List.getElem?_eq_getElem (show j.toNat < rows.length by omega)]
    exact List.getElem_mem _
  rw [rng_len] at hs
  rw [← hc, ← hs, knotsAt_eq]
  have pos : ∀ r ∈ srtT ((grp rows p).map (·.1)), 1 ≤ (who rows p r rows.length).length := fun r hr => by
    obtain ⟨s, hs, e⟩ := List.mem_map.mp ((hm r).mp hr)
    obtain ⟨j, hj, rfl⟩ := List.mem_iff_getElem.mp hs
    refine List.length_pos_of_mem (a := (j : Int)) (who_mem.mpr ⟨by omega, ?_⟩)
    rw [Int.toNat_natCast, List.getD_eq_getElem?_getD, List.getElem?_eq_getElem hj]
    exact e
  generalize srtT ((grp rows p).map (·.1)) = L at pos
  clear hs hc hm hL
  induction L with
  | nil => rfl
  | cons r L ih =>
    have h1 := pos r (List.mem_cons_self ..)
    have h2 := ih fun s hs => pos s (List.mem_cons_of_mem _ hs)
    unfold sK at h2 ⊢
    rw [List.map_cons, List.map_cons, List.sum_cons, h2, List.map_cons, List.sum_cons, List.length_cons]
    show max 0 (((who rows p r rows.length).length : Int) - 1) + _ = _
    unfold who at h1 ⊢
    omega
theorem sK_knots (rows : List Row) : sK (knots rows) = ((rng 0 (rows.getD 0 []).length).map fun x => (rows.length : Int) - (cls (del x.toNat) rows : Nat)).sum := by
  rw [knots_eq]
  generalize rng 0 (rows.getD 0 []).length = xs
  induction xs with
  | nil => rfl
  | cons x xs ih => rw [List.map_cons, List.flatten_cons, sK_app, ih, sK_at, List.map_cons, List.sum_cons]
theorem cls_same {f : Row → Row} {xs ys : List Row} (h : ∀ x, x ∈ xs ↔ x ∈ ys) : cls f xs = cls f ys :=
  len_eq_of_same (ncl_nodup _) (ncl_nodup _) fun x => by
    rw [ncl_mem, ncl_mem, List.mem_map, List.mem_map]
    exact ⟨fun ⟨r, hr, e⟩ => ⟨r, (h r).mp hr, e⟩, fun ⟨r, hr, e⟩ => ⟨r, (h r).mpr hr, e⟩⟩
theorem del_flat {a q n : Nat} {r s : Row} (hr : r.length = n) (hs : s.length = n) (hq : q < n) : del q r = del q s ↔ flat a [q] r = flat a [q] s := by
  show _ ↔ r.set q a = s.set q a
  rw [List.set_eq_take_append_cons_drop, List.set_eq_take_append_cons_drop, if_pos (by omega), if_pos (by omega)]
  unfold del
  have hl : (r.take q).length = (s.take q).length := by rw [List.length_take, List.length_take, hr, hs]
  constructor
  · intro h
    obtain ⟨h1, h2⟩ := List.append_inj h hl
    rw [h1, h2]
  · intro h
    obtain ⟨h1, h2⟩ := List.append_inj h hl
    rw [h1, (List.cons.inj h2).2]
section
variable {ans : List Nat} {n p : Nat} {rows : List Row}
theorem Sg.cls_del (s : Sg ans n rows) (hp : p < n) {q : Nat} (hq : q < n) : cls (del q) (pushAt ans rows p) ≤ cls (del q) rows := by
  have s2 := s.push hp
  rw [cls_eq (g := flat (a0 ans) [q]) fun r hr t ht => del_flat (s2.g.len hr) (s2.g.len ht) hq, cls_eq (xs := rows) (g := flat (a0 ans) [q]) fun r hr t ht => del_flat (s.g.len hr) (s.g.len ht) hq]
  rw [cls_same fun x => push_mem2]
  exact cls_push s.ab s.bin hp [q]
theorem Sg.sK_le (s : Sg ans n rows) (hp : p < n) : sK (knots rows) ≤ sK (knots (pushAt ans rows p)) := by
  rw [sK_knots, sK_knots, s.g.first, (s.push hp).g.first, s.push_len hp]
  have : ∀ xs : List Int, (∀ x ∈ xs, x.toNat < n) → (xs.map fun x => (rows.length : Int) - (cls (del x.toNat) rows : Nat)).sum ≤ (xs.map fun x => (rows.length : Int) - (cls (del x.toNat) (pushAt ans rows p) : Nat)).sum := by
    intro xs
    induction xs with
    | nil => intro _; exact Int.le_refl _
    | cons x xs ih =>
      intro h
      have h1 := ih fun y hy => h y (List.mem_cons_of_mem _ hy)
      have h2 := s.cls_del hp (h x (List.mem_cons_self ..))
      rw [List.map_cons, List.map_cons, List.sum_cons, List.sum_cons]
      omega
  exact this _ fun x hx => by
    have := rng_mem.mp hx
    omega
theorem oncN_sK (s : Sg ans n rows) : ∀ m, m ≤ n → sK (knots rows) ≤ sK (knots (oncN ans rows m))
  | 0, _ => Int.le_refl _
  | m + 1, h => by
    have h1 := oncN_sK s m (by omega)
    have h2 := (oncN_ok s m (by omega)).1.sK_le (p := m) (by omega)
    rw [oncN_succ]
    omega
theorem Sg.once_sK (s : Sg ans n rows) : sK (knots rows) ≤ sK (knots (Q.once ans n rows)) := oncN_sK s n (Nat.le_refl _)
/-! ### full sets -/
theorem manyOf_eq (h : ans.length = 2) (ps : List Int) : manyOf ans ps = ((2 ^ ps.length : Nat) : Int) := by
  have : ∀ (ps : List Int) (m : Int), ps.foldl (fun (m : Int) (_ : Int) => m * (ans.length : Int)) m = m * ((2 ^ ps.length : Nat) : Int) := by
    intro ps
    induction ps with
    | nil => intro m; simp
    | cons p ps ih =>
      intro m
      rw [List.foldl_cons, ih, List.length_cons, h, Nat.pow_succ, Int.mul_assoc]
      congr 1
      omega
  unfold manyOf
  rw [this, Int.one_mul]
theorem isFull_iff (h : ans.length = 2) {ps : List Int} : isFull ans rows ps = true ↔ cls (proj ps) rows = 2 ^ ps.length := by
  unfold isFull
  have e : (dkd (rows.map (proj ps))).length = cls (proj ps) rows := by
    rw [← dk_cls]
    unfold dk
    rw [List.length_map]
  rw [decide_eq_true_iff, manyOf_eq h, e]
  omega
theorem proj_flat {a : Nat} {ps : List Int} (hps : ∀ i ∈ ps, 0 ≤ i ∧ i < (n : Int)) {r s : Row} (hr : r.length = n) (hs : s.length = n) :
    proj ps r = proj ps s ↔ flat a ((List.range n).filter fun m => decide ((m : Int) ∉ ps)) r = flat a ((List.range n).filter fun m => decide ((m : Int) ∉ ps)) s := by
  rw [flat_eq hr hs]
  unfold proj
  constructor
  · intro h m hm hq
    have hin : (m : Int) ∈ ps := by
      by_cases c : (m : Int) ∈ ps
      · exact c
      · exact absurd (List.mem_filter.mpr ⟨List.mem_range.mpr hm, decide_eq_true c⟩) hq
    have := List.map_inj_left.mp h m hin
    rwa [Int.toNat_natCast] at this
  · intro h
    refine List.map_congr_left fun i hi => ?_
    have := hps i hi
    refine h i.toNat (by omega) fun hq => ?_
    have := of_decide_eq_true (List.mem_filter.mp hq).2
    exact this (by rw [Int.toNat_of_nonneg (hps i hi).1]; exact hi)
theorem Sg.cls_proj (s : Sg ans n rows) (hp : p < n) {ps : List Int} (hps : ∀ i ∈ ps, 0 ≤ i ∧ i < (n : Int)) : cls (proj ps) (pushAt ans rows p) ≤ cls (proj ps) rows := by
  have s2 := s.push hp
  rw [cls_eq fun r hr t ht => proj_flat (a := a0 ans) hps (s2.g.len hr) (s2.g.len ht), cls_eq (xs := rows) fun r hr t ht => proj_flat (a := a0 ans) hps (s.g.len hr) (s.g.len ht)]
  rw [cls_same fun x => push_mem2]
  exact cls_push s.ab s.bin hp _
theorem Sg.cls_max (s : Sg ans n rows) {ps : List Int} (hps : ∀ i ∈ ps, 0 ≤ i ∧ i < (n : Int)) : cls (proj ps) rows ≤ 2 ^ ps.length := by
  have := cls_le (f := proj ps) (xs := rows) (m := allRows ans ps.length) fun r hr => by
    refine allRows_row.mpr (isRow_iff.mpr ⟨by simp [proj], fun c hc => ?_⟩)
    obtain ⟨i, hi, rfl⟩ := List.mem_map.mp hc
    obtain ⟨h1, h2⟩ := isRow_iff.mp (s.g.row r hr)
    refine h2 _ ?_
    have := hps i hi
    rw [List.getD_eq_getElem?_getD, List.getElem?_eq_getElem (show i.toNat < r.length by omega)]
    exact List.getElem_mem _
  rw [allRows_len, s.two] at this
  exact this
theorem Sg.full (s : Sg ans n rows) (hp : p < n) {ps : List Int} (h : ps ∈ fullSets ans n (pushAt ans rows p)) : ps ∈ fullSets ans n rows := by
  obtain ⟨h1, h2⟩ := List.mem_filter.mp h
  refine List.mem_filter.mpr ⟨h1, ?_⟩
  have hps := (lots_mem n ps h1).2
  have h3 := (isFull_iff s.two).mp h2
  have h4 := s.cls_proj hp hps
  have h5 := s.cls_max hps
  exact (isFull_iff s.two).mpr (by omega)
end
end Q

set_option Elab.async false
set_option linter.all false
set_option maxRecDepth 100000
set_option maxHeartbeats 4000000
namespace Q
open PySem PySem.Spec PyProof.Rows L2 Z
theorem lex_app : ∀ {r s : List Nat} (t u : List Nat), r.length = s.length → r < s → r ++ t < s ++ u
  | [], [], _, _, _, h => absurd h (List.lt_irrefl _)
  | [], _ :: _, _, _, h, _ => by simp at h
  | _ :: _, [], _, _, h, _ => by simp at h
  | x :: r, y :: s, t, u, h, hlt => by
    rw [List.cons_append, List.cons_append, List.cons_lt_cons_iff]
    rcases List.cons_lt_cons_iff.mp hlt with h1 | ⟨h1, h2⟩
    · exact .inl h1
    · exact .inr ⟨h1, lex_app t u (by simpa using h) h2⟩
theorem lex_same : ∀ (r : List Nat) {t u : List Nat}, t < u → r ++ t < r ++ u
  | [], _, _, h => h
  | x :: r, t, u, h => List.cons_lt_cons_iff.mpr (.inr ⟨rfl, lex_same r h⟩)
theorem growR_pw {ans : List Nat} (ha : ans.Pairwise (· < ·)) {n : Nat} : ∀ {f : List Row}, f.Pairwise (· < ·) → (∀ r ∈ f, r.length = n) → (f.flatMap fun r => ans.map fun c => r ++ [c]).Pairwise (· < ·)
  | [], _, _ => List.Pairwise.nil
  | r :: f, hp, hl => by
    rw [List.pairwise_cons] at hp
    rw [List.flatMap_cons, List.pairwise_append]
    refine ⟨?_, growR_pw ha hp.2 fun s hs => hl s (List.mem_cons_of_mem _ hs), fun x hx y hy => ?_⟩
    · rw [List.pairwise_map]
      exact ha.imp fun h => lex_same r (by simp [List.cons_lt_cons_iff]; exact h)
    · obtain ⟨c, _, rfl⟩ := List.mem_map.mp hx
      obtain ⟨s, hs, hy⟩ := List.mem_flatMap.mp hy
      obtain ⟨d, _, rfl⟩ := List.mem_map.mp hy
      exact lex_app _ _ (by rw [hl r (List.mem_cons_self ..), hl s (List.mem_cons_of_mem _ hs)]) (hp.1 s hs)
theorem allRows_pw {ans : List Nat} (ha : ans.Pairwise (· < ·)) : ∀ n, (allRows ans n).Pairwise (· < ·)
  | 0 => List.pairwise_singleton _ _
  | n + 1 => by
    rw [allRows_succ, growR_eq]
    exact growR_pw (n := n) ha (allRows_pw ha n) fun r hr => (isRow_iff.mp (allRows_row.mp hr)).1
theorem pw_nd {l : List Row} (h : l.Pairwise (· < ·)) : l.Nodup := h.imp fun {a b} hlt e => by subst e; exact List.lt_irrefl _ hlt
theorem pw_le {l : List Row} (h : l.Pairwise (· < ·)) : l.Pairwise (· ≤ ·) := h.imp fun hlt => List.le_of_lt hlt
theorem sg_every {ans : List Nat} {n : Nat} (h : isAns ans = true) (h2 : ans.length = 2) (h1 : 1 ≤ n) (h5 : n < 6) : Sg ans n (allRows ans n) := by
  have hl : (allRows ans n).length ≤ 32 := by
    rw [allRows_len, h2]
    exact Nat.le_trans (Nat.pow_le_pow_right (by decide) (show n ≤ 5 by omega)) (by decide)
  have hp : 0 < (allRows ans n).length := by
    rw [allRows_len, h2]
    exact Nat.pow_pos (by decide)
  exact ⟨⟨h, hp, hl, h1, by omega, fun r hr => allRows_row.mp hr⟩, h2, pw_le (allRows_pw (isAns_iff h).2.2 n), pw_nd (allRows_pw (isAns_iff h).2.2 n)⟩
theorem sg_some {ans : List Nat} {n : Nat} {f : Row → Bool} (h : isAns ans = true) (h2 : ans.length = 2) (h1 : 1 ≤ n) (h5 : n < 6) (hp : 0 < ((allRows ans n).filter f).length) : Sg ans n ((allRows ans n).filter f) := by
  have s := sg_every h h2 h1 h5
  exact ⟨⟨h, hp, Nat.le_trans (List.length_filter_le _ _) s.g.le, h1, by omega, fun r hr => s.g.row r (List.mem_filter.mp hr).1⟩, h2, s.so.sublist (List.filter_sublist ..), s.nd.sublist (List.filter_sublist ..)⟩
theorem but_one {l : List Row} (nd : l.Nodup) (h : 2 ≤ l.length) (e : Row) : 0 < (l.filter fun r => !decide (r = e)).length := by
  match l, h, nd with
  | x :: y :: l, _, nd =>
    rw [List.nodup_cons] at nd
    by_cases c : x = e
    · refine List.length_pos_of_mem (a := y) (List.mem_filter.mpr ⟨by simp, ?_⟩)
      have : ¬ y = e := fun z => nd.1 (by rw [c, ← z]; exact List.mem_cons_self ..)
      simp [this]
    · exact List.length_pos_of_mem (a := x) (List.mem_filter.mpr ⟨List.mem_cons_self .., by simp [c]⟩)
theorem sg_drawn {ans : List Nat} {n : Nat} {tk : List Row} (h : isAns ans = true) (h2 : ans.length = 2) (h1 : 1 ≤ n) (h6 : n ≤ 6) (nd : tk.Nodup) (hm : ∀ r ∈ tk, r ∈ allRows ans n) (hp : 0 < tk.length) (hl : tk.length ≤ 32) : Sg ans n (srtT tk) :=
  ⟨⟨h, by rw [srtT_len]; exact hp, by rw [srtT_len]; exact hl, h1, h6, fun r hr => allRows_row.mp (hm r (srtT_mem.mp hr))⟩, h2, srtT_pw _, (srtT_perm _).nodup_iff.mpr nd⟩
end Q

set_option Elab.async false
set_option linter.all false
set_option maxRecDepth 100000
set_option maxHeartbeats 4000000
namespace Q
open PySem PySem.Spec PyProof.Rows L2 Z
def topS (i : Nat) : Stmt := PySem.Challenge.pw_oneleftout_k82_pushing.main.body.getD i (.Pass ⟨0, 0, 0, 0⟩)
structure Bt (mg : Str → Option Value) : Prop where
  len : mg "len" = none
  range : mg "range" = none
  int : mg "int" = none
  tuple : mg "tuple" = none
  list : mg "list" = none
  sorted : mg "sorted" = none
  sum : mg "sum" = none
  max : mg "max" = none
  isin : mg "isinstance" = none
section
variable {P : Program} {w : World} {K : PySem.W.Frag} {mg : Str → Option Value} {base : Heap}

/-! ### is_answers -/
abbrev sIsAns : Stmt := topS 9
theorem scIsAns : FnScope ["answers", "index"] ["answers"] (defScope sIsAns) := ⟨rfl, rfl, rfl, by decide +kernel, rfl, by decide +kernel, by decide +kernel⟩
theorem D_is_answers (F : Fn0 K mg "is_answers" sIsAns []) (B : Bt mg) : Df P w K mg base 1 "is_answers" (fun l : List Nat => [.v rTx l]) (fun l => isAns l = true) (fun _ => rBool) (fun _ => true) := by
  refine F.df scIsAns (fun _ => rfl) (by decide) (fun _ _ _ _ _ _ us hl => match us, hl with | [_], _ => rfl) fun l hl f cdv A outer s H E hr => ?_
  obtain ⟨⟨h2, h4⟩, hc, hp⟩ := isAns_iff hl
  refine ss_if (EW.eb (ew_or (eb_lt (ev_lenS B.len (ev 0) (by omega)) ev_int) fun _ => ew_or1 (eb_gt (ev_lenS B.len (ev 0) (by omega)) ev_int))) (fun h => ?_) (fun _ => ?_)
  · exfalso
    simp at h
    omega
  · refine ss_nil ?_
    refine ss_forF (fun (s : Unit) (x : Int) => ()) () (fun _ => [.v rTx l, .un]) (fun _ _ => True) (it_range l.length B.range (ev_lenS B.len (ev 0) (by omega)) rfl (by omega)) (gz_name 1 scIsAns.nd) ⟨.inr rfl, .inr rfl, trivial⟩ trivial (fun _ _ _ _ _ => trivial) (fun i x _ hx _ => ?_) (fun _ => ?_)
    · obtain ⟨hi, rfl⟩ := rng_get.mp hx
      have hci := hc l[i] (List.getElem_mem hi)
      refine ss_if (EW.eb (ew_or (eb_ltT (ev_ixS (ev 0) (ev 1) (atI_nat' (n := i) (by omega) (List.getElem?_eq_getElem hi)) (by omega)) (ev_str [97])) fun _ => ew_or1 (eb_gtT (ev_ixS (ev 0) (ev 1) (atI_nat' (n := i) (by omega) (List.getElem?_eq_getElem hi)) (by omega)) (ev_str [122])))) (fun h => ?_) (fun _ => ?_)
      · exfalso
        rw [lt1, lt1] at h
        simp at h
        omega
      · refine ss_nil ?_
        refine ss_if (EW.eb (ew_and (eb_gt (ev 1) ev_int) fun h => ew_and1 (eb_geT (ev_ixS (ev 0) (ev_sub (ev 1) ev_int) (atI_nat' (n := i - 1) (by simp at h; omega) (getD_some 0 (by omega))) (by omega)) (ev_ixS (ev 0) (ev 1) (atI_nat' (n := i) (by omega) (List.getElem?_eq_getElem hi)) (by omega))))) (fun h => ?_) (fun _ => ?_)
        · exfalso
          rw [lt1] at h
          simp at h
          rw [List.getElem?_eq_getElem (show i - 1 < l.length by omega)] at h
          simp at h
          have := List.pairwise_iff_getElem.mp hp (i - 1) i (by omega) hi (by omega)
          omega
        · refine ss_nil ?_
          refine ss_nil ?_
          exact ⟨.inr rfl, .inl rfl, trivial⟩
    · exact ss_ret ev_bl rfl
/-! ### is_row -/
abbrev sIsRow : Stmt := topS 10
theorem scIsRow : FnScope ["answers", "length", "row", "answer"] ["answers", "length", "row"] (defScope sIsRow) := ⟨rfl, rfl, rfl, by decide +kernel, rfl, by decide +kernel, by decide +kernel⟩
theorem D_is_row (F : Fn0 K mg "is_row" sIsRow []) (B : Bt mg) : Df P w K mg base 1 "is_row" (fun a : List Nat × Nat × Row => [.v rTx a.1, .v rInt (a.2.1 : Int), .v rTx a.2.2]) (fun a => a.2.2.length ≤ 1000) (fun _ => rBool) (fun a => isRow a.1 a.2.1 a.2.2) := by
  refine F.df scIsRow (fun _ => rfl) (by decide) (fun _ _ _ _ _ _ us hl => match us, hl with | [_, _, _], _ => rfl) fun ⟨l, n, r⟩ hz f cdv A outer s H E hr => ?_
  replace hz : r.length ≤ 1000 := hz
  show SS _ _ [.v rTx l, .v rInt (n : Int), .v rTx r, .un] (outR rBool (isRow l n r))
  refine ss_if (eb_neI (ev_lenS B.len (ev 2) (by omega)) (ev 1)) (fun h => ss_ret ev_bl ?_) (fun h => ss_nil ?_)
  · show false = isRow l n r
    simp at h
    unfold isRow
    rw [decide_eq_false (by omega)]
    rfl
  · simp at h
    refine ss_for (fun i Γ' => Wk Γ' [.v rTx l, .v rInt (n : Int), .v rTx r, .un] ∧ ∀ c ∈ r.take i, c ∈ l) (it_S (l := r) (ev 2)) (gz_name 3 scIsRow.nd) ⟨⟨.inr rfl, .inr rfl, .inr rfl, .inr rfl, trivial⟩, by simp⟩ (fun i x Γ' hx ⟨wk, hI⟩ => ?_) (fun Γ' h2 => ss_weak (ss_ret ev_bl ?_) h2.1)
    · rw [List.getElem?_map] at hx
      obtain ⟨c, hc, rfl⟩ := Option.map_eq_some_iff.mp hx
      refine ss_weak (Γ' := [.v rTx l, .v rInt (n : Int), .v rTx r, .v rTx [c]]) ?_ ?_
      · refine ss_if (eb_ninS (ev 3) (ev 0)) (fun h => ss_ret ev_bl ?_) (fun h => ss_nil (ss_nil ⟨⟨.inr rfl, .inr rfl, .inr rfl, .inl rfl, trivial⟩, ?_⟩))
        · show false = isRow l n r
          unfold isRow
          have : r.all (fun c => decide (c ∈ l)) = false := by
            rw [List.all_eq_false]
            exact ⟨c, List.mem_of_getElem? hc, by simpa using h⟩
          rw [this, Bool.and_false]
        · intro d hd
          rw [List.take_add_one, hc] at hd
          rcases List.mem_append.mp hd with hd | hd
          · exact hI d hd
          · simp at hd
            subst hd
            simpa using h
      · exact Wk.set wk
    · show true = isRow l n r
      have hI := h2.2
      rw [List.length_map, List.take_length] at hI
      unfold isRow
      rw [decide_eq_true (by omega)]
      have : r.all (fun c => decide (c ∈ l)) = true := List.all_eq_true.mpr fun c hc => decide_eq_true (hI c hc)
      rw [this]
      rfl
/-! ### different -/
abbrev sDiff : Stmt := topS 11
theorem scDiff : FnScope ["strings", "known", "string"] ["strings"] (defScope sDiff) := ⟨rfl, rfl, rfl, by decide +kernel, rfl, by decide +kernel, by decide +kernel⟩
theorem D_different (F : Fn0 K mg "different" sDiff []) (B : Bt mg) : Df P w K mg base 1 "different" (fun a : List Row => [.v (rT rTx) a]) (fun a => a.length < 64) (fun _ => rT rTx) (fun a => diff a) := by
  refine F.df scDiff (fun _ => rfl) (by decide) (fun _ _ _ _ _ _ us hl => match us, hl with | [_], _ => rfl) fun xs hz f cdv A outer s H E hr => ?_
  replace hz : xs.length < 64 := hz
  show SS _ _ [.v (rT rTx) xs, .un, .un] (outR (rT rTx) (diff xs))
  refine ss_setO 1 scDiff.nd (eo_dictT (c := rBool)) ?_
  refine ss_forF (fun (d : List (Row × Bool)) x => dput d x true) [] (fun d => [.v (rT rTx) xs, odT rBool d, .un]) (fun i d => d.length ≤ i) (it_T (ev 0)) (gz_name 2 scDiff.nd) ⟨.inr rfl, .inr rfl, .inr rfl, trivial⟩ (Nat.zero_le _) (fun i x d hx hd => ?_) (fun i x d hx hd => ?_) (fun hd => ?_)
  · have := dput_len d x true
    omega
  · have hi := (List.getElem?_eq_some_iff.mp hx).1
    refine ss_putK kyT 1 hr ev_bl (ev 2) rfl (by omega) ?_
    exact ss_nil ⟨.inr rfl, .inr rfl, .inl rfl, trivial⟩
  · exact ss_ret (ev_tupL B.tuple (EL.of (EO.fz (eo_sortT B.sorted (EL.of (EO.fz (eo_listK (ck := rTx) (kf := kT) (fun x => rfl) 1 B.list rfl))) (by rw [List.length_map]; omega))))) rfl
end
end Q

set_option Elab.async false
set_option linter.all false
set_option maxRecDepth 100000
set_option maxHeartbeats 4000000
namespace Q
open PySem PySem.Spec PyProof.Rows L2 Z
section
variable {P : Program} {w : World} {K : PySem.W.Frag} {mg : Str → Option Value} {base : Heap}
/-! ### the law's cells -/
abbrev sCell : Stmt := topS 27
theorem scCell : FnScope ["script", "k", "seed", "cell"] ["script", "k"] (defScope sCell) := ⟨rfl, rfl, rfl, by decide +kernel, rfl, by decide +kernel, by decide +kernel⟩
theorem D_cell (F : Fn0 K mg "_law_cell" sCell []) (B : Bt mg) : Df P w K mg base 1 "_law_cell" (fun a : List Int × Nat => [.v rScr a.1, .v rInt (a.2 : Int)]) (fun a => a.2 ≤ 1000) (fun _ => rInt) (fun a => lawCell a.1 a.2) := by
  refine F.df scCell (fun _ => rfl) (by decide) (fun _ _ _ _ _ _ us hl => match us, hl with | [_, _], _ => rfl) fun ⟨ns, k⟩ hk f cdv A outer s H E hr => ?_
  replace hk : k ≤ 1000 := hk
  show SS _ _ [.v rScr ns, .v rInt (k : Int), .un, .un] (outR rInt (lawCell ns k))
  refine ss_if (eb_lt (ev 1) (ev_lenL B.len (EL.scr (ev 0)))) (fun h => ?_) (fun h => ?_)
  · have hlt : k < ns.length := by
      have := of_decide_eq_true h
      omega
    refine ss_ret (ev_intI B.int (ev_ixL (EL.scr (ev 0)) (ev 1) (atI_nat (List.getElem?_eq_getElem hlt)))) ?_
    show _ = lawCell ns k
    unfold lawCell
    rw [if_pos hlt, List.getD_eq_getElem?_getD, List.getElem?_eq_getElem hlt]
    rfl
  · have hlt : ¬ k < ns.length := by
      have := of_decide_eq_false h
      omega
    refine ss_nil ?_
    refine ss_set 2 scCell.nd ev_int ?_
    refine ss_forF (fun (s : Int) c => (s * 31 + c % 1000003) % 1000003) 17 (fun s => [.v rScr ns, .v rInt (k : Int), .v rInt s, .un]) (fun _ _ => True) (it_scr (ev 0)) (gz_name 3 scCell.nd) ⟨.inr rfl, .inr rfl, .inr rfl, .inr rfl, trivial⟩ trivial (fun _ _ _ _ _ => trivial) (fun i x s hx _ => ?_) (fun _ => ?_)
    · refine ss_set 2 scCell.nd (ev_mod (ev_intI B.int (ev_add (ev_mul (ev 2) ev_int (.inr (by decide))) (ev_mod (ev_intI B.int (ev 3)) ev_int (by decide)))) ev_int (by decide)) ?_
      exact ss_nil ⟨.inr rfl, .inr rfl, .inr rfl, .inl rfl, trivial⟩
    · refine ss_ret (ev_mod (ev_intI B.int (ev_mul (ev_mul (ev_add (ev 2) ev_int) (ev_add (ev 1) ev_int) (.inr ⟨by omega, by omega⟩)) ev_int (.inr (by decide)))) ev_int (by decide)) ?_
      show _ = lawCell ns k
      unfold lawCell
      rw [if_neg hlt]
/-! ### digits -/
abbrev sDig : Stmt := topS 28
theorem scDig : FnScope ["cell", "sizes", "row", "rest", "size", "seed", "k", "twice"] ["cell", "sizes"] (defScope sDig) := ⟨rfl, rfl, rfl, by decide +kernel, rfl, by decide +kernel, by decide +kernel⟩
theorem D_digits (F : Fn0 K mg "_law_digits" sDig []) (B : Bt mg) : Df P w K mg base 1 "_law_digits" (fun a : Int × List Int => [.v rInt a.1, .v (rL rInt) a.2]) (fun a => (∀ z ∈ a.2, PZ z) ∧ a.2.length ≤ 1000) (fun _ => rL rInt) (fun a => digits a.1 a.2) := by
  refine F.df scDig (fun _ => rfl) (by decide) (fun _ _ _ _ _ _ us hl => match us, hl with | [_, _], _ => rfl) fun ⟨c, zs⟩ hz f cdv A outer s H E hr => ?_
  replace hz : (∀ z ∈ zs, PZ z) ∧ zs.length ≤ 1000 := hz
  obtain ⟨hz, hl⟩ := hz
  show SS _ _ [.v rInt c, .v (rL rInt) zs, .un, .un, .un, .un, .un, .un] (outR (rL rInt) (digits c zs))
  refine ss_setO 2 scDig.nd (eo_nil (c := rInt)) ?_
  refine ss_set 3 scDig.nd (ev_intI B.int (ev 0)) ?_
  refine ss_if (eb_ge (ev 3) (ev_pow ev_int ev_int ⟨by decide, by decide, by decide⟩)) (fun h => ?_) (fun h => ss_nil ?_)
  · refine ss_set 3 scDig.nd (ev_sub (ev 3) (ev_pow ev_int ev_int ⟨by decide, by decide, by decide⟩)) ?_
    refine ss_forF digA (c - 10 ^ 18, []) (fun s => [.v rInt c, .v (rL rInt) zs, .ol rInt s.2, .v rInt s.1, .un, .un, .un, .un]) (fun i s => s.2.length ≤ i) (it_L (ev 1)) (gz_name 4 scDig.nd) ⟨.inr rfl, .inr rfl, .inr rfl, .inr rfl, .inr rfl, .inr rfl, .inr rfl, .inr rfl, trivial⟩ (Nat.zero_le _) (fun i x s hx hs => ?_) (fun i x s hx hs => ?_) (fun _ => ?_)
    · simp [digA]
      omega
    · have hp := hz x (List.mem_of_getElem? hx)
      have hi := (List.getElem?_eq_some_iff.mp hx).1
      refine ss_app 2 rfl (ev_mod (ev_intI B.int (ev 3)) (ev 4) hp.1) (by omega) ?_
      refine ss_set 3 scDig.nd (ev_fdiv (ev_intI B.int (ev 3)) (ev 4) hp) ?_
      exact ss_nil ⟨.inr rfl, .inr rfl, .inr rfl, .inr rfl, .inl rfl, .inr rfl, .inr rfl, .inr rfl, trivial⟩
    · refine ss_fz 2 rfl ?_
      refine ss_ret (ev 2) ?_
      show _ = digits c zs
      unfold digits
      exact (if_pos (of_decide_eq_true h)).symm
  · refine ss_set 5 scDig.nd (ev_mod (ev_intI B.int (ev 3)) ev_int (by decide)) ?_
    refine ss_forF (digB zs) (c % 2147483629, []) (fun s => [.v rInt c, .v (rL rInt) zs, .ol rInt s.2, .v rInt c, .un, .v rInt s.1, .un, .un]) (fun i s => s.2.length ≤ i) (it_range zs.length B.range (ev_lenL B.len (EL.of (ev 1))) rfl (by omega)) (gz_name 6 scDig.nd) ⟨.inr rfl, .inr rfl, .inr rfl, .inr rfl, .inr rfl, .inr rfl, .inr rfl, .inr rfl, trivial⟩ (Nat.zero_le _) (fun i x s hx hs => ?_) (fun i x s hx hs => ?_) (fun _ => ?_)
    · simp [digB]
      omega
    · obtain ⟨hi, rfl⟩ := rng_get.mp hx
      have hg : zs[i]? = some (zs.getD i 1) := getD_some 1 hi
      have hp := hz _ (List.mem_of_getElem? hg)
      refine ss_set 5 scDig.nd (ev_mod (ev_intI B.int (ev_add (ev_add (ev_mul (ev 5) ev_int (.inr (by decide))) (ev_mul ev_int (ev 6) (.inl (by decide)))) ev_int)) ev_int (by decide)) ?_
      have hd : digS s.1 (0 + (i : Int)) < 2 ^ 64 ∧ 0 ≤ digS s.1 (0 + (i : Int)) := ⟨Int.lt_trans (Int.emod_lt_of_pos _ (by decide)) (by decide), Int.emod_nonneg _ (by decide)⟩
      refine ss_set 7 scDig.nd (ev_mod (ev_intI B.int (ev_mul (ev 5) (ev_add (ev_fdiv (ev 5) ev_int ⟨by decide, by decide⟩) ev_int) (.inl ⟨by show -(2 ^ 64) < digS s.1 (0 + (i : Int)); omega, hd.1⟩))) ev_int (by decide)) ?_
      refine ss_app 2 rfl (ev_mod (ev_fdiv (ev 7) ev_int ⟨by decide, by decide⟩) (ev_ixL (EL.of (ev 1)) (ev 6) (atI_nat' (n := i) (by omega) hg)) hp.1) (by omega) ?_
      refine ss_nil ?_
      have e : ((0 : Int) + (i : Int)).toNat = i := by omega
      unfold digB
      rw [e]
      exact ⟨.inr rfl, .inr rfl, .inr rfl, .inr rfl, .inr rfl, .inr rfl, .inl rfl, .inl rfl, trivial⟩
    · refine ss_fz 2 rfl ?_
      refine ss_ret (ev 2) ?_
      show _ = digits c zs
      unfold digits
      exact (if_neg (of_decide_eq_false h)).symm
end
end Q

set_option Elab.async false
set_option linter.all false
set_option maxRecDepth 100000
set_option maxHeartbeats 4000000
namespace Q
open PySem PySem.Spec PyProof.Rows L2 Z
def aw : Str := "answers"
abbrev rKn : Rp (List (Int × Row × List Int)) := rT (r3 rInt rTx (rT rInt))
/-- a web's fields -/
def webF (a : List Nat × List Row) : List (Str × Fd) :=
  [("answers", fd rTx a.1), ("places", fd rInt ((a.2.getD 0 []).length : Int)), ("rows", fd (rT rTx) a.2), ("knots", fd rKn (knots a.2))]
abbrev rWeb (K : PySem.W.Frag) : Rp (List Nat × List Row) := rIns (He.ga K "Web") webF
structure Cn (K : PySem.W.Frag) (mg : Str → Option Value) : Prop where
  cls : Cls K (He.ga K "Web")
  mkr : Mk K (He.ga K "Web") (He.ma K (He.ga K "Web") "__init__")
  glo : mg "Web" = some (.ref (He.ga K "Web"))
  na1 : NoAttr K (He.ga K "Web") "answers"
  na2 : NoAttr K (He.ga K "Web") "places"
  na3 : NoAttr K (He.ga K "Web") "rows"
  na4 : NoAttr K (He.ga K "Web") "knots"
  isi : Isi K (He.ga K "Web")
  ne : PySem.W.findIn K (.ref (He.ga K "Web")) "__ne__" = some (some (.builtin "object.__ne__"))
  mp : ∃ t, mg "MOST_PLACES" = some (.int 6 t)
  mr : ∃ t, mg "MOST_ROWS" = some (.int 32 t)
section
variable {P : Program} {w : World} {K : PySem.W.Frag} {mg : Str → Option Value} {base : Heap}
/-! ### knots_of -/
abbrev sKn : Stmt := topS 16
theorem scKn : FnScope ["rows", "knots", "place", "groups", "index", "rest"] ["rows"] (defScope sKn) := ⟨rfl, rfl, rfl, by decide +kernel, rfl, by decide +kernel, by decide +kernel⟩
theorem D_knots_of (F : Fn0 K mg "knots_of" sKn []) (B : Bt mg) : Df P w K mg base 1 "knots_of" (fun a : List Row => [.v (rT rTx) a]) (fun a => 0 < a.length ∧ a.length < 64 ∧ ∀ r ∈ a, r.length ≤ 100) (fun _ => rKn) (fun a => knots a) := by
  refine F.df scKn (fun _ => rfl) (by decide) (fun _ _ _ _ _ _ us hl => match us, hl with | [_], _ => rfl) fun rows hz f cdv A outer s H E hr => ?_
  replace hz : 0 < rows.length ∧ rows.length < 64 ∧ ∀ r ∈ rows, r.length ≤ 100 := hz
  obtain ⟨h0, h1, h2⟩ := hz
  show SS _ _ [.v (rT rTx) rows, .un, .un, .un, .un, .un] (outR rKn (knots rows))
  have hget : ∀ i, i < rows.length → rows[i]? = some (rows.getD i []) := fun i hi => getD_some [] hi
  have hlen : ∀ i, i < rows.length → (rows.getD i []).length ≤ 100 := fun i hi => h2 _ (List.mem_of_getElem? (hget i hi))
  refine ss_setO 1 scKn.nd (eo_nil (c := r3 rInt rTx (rT rInt))) ?_
  refine ss_forF (fun acc (x : Int) => acc ++ knotsAt rows x.toNat) [] (fun acc => [.v (rT rTx) rows, .ol (r3 rInt rTx (rT rInt)) acc, .un, .un, .un, .un]) (fun i acc => acc.length ≤ i * 64) (it_range (rows.getD 0 []).length B.range (ev_lenS B.len (ev_ixT (ev 0) ev_int (atI_nat' (n := 0) rfl (hget 0 h0))) (by have := hlen 0 h0; omega)) rfl (by have := hlen 0 h0; omega)) (gz_name 2 scKn.nd) ⟨.inr rfl, .inr rfl, .inr rfl, .inr rfl, .inr rfl, .inr rfl, trivial⟩ (Nat.zero_le _) (fun i x acc hx ha => ?_) (fun i x acc hx ha => ?_) (fun _ => ?_)
  · obtain ⟨hi, rfl⟩ := rng_get.mp hx
    have := knotsAt_len rows ((0 : Int) + (i : Int)).toNat
    rw [List.length_append]
    omega
  · obtain ⟨hi, rfl⟩ := rng_get.mp hx
    rw [show ((0 : Int) + (i : Int)) = (i : Int) by omega]
    have hi100 : i < 100 := Nat.lt_of_lt_of_le hi (hlen 0 h0)
    show SS _ _ [.v (rT rTx) rows, .ol (r3 rInt rTx (rT rInt)) acc, .v rInt (i : Int), .un, .un, .un] _
    refine ss_setO 3 scKn.nd (eo_dictT (c := rT rInt)) ?_
    refine ss_forF (grpS rows i) [] (fun d => [.v (rT rTx) rows, .ol (r3 rInt rTx (rT rInt)) acc, .v rInt (i : Int), odT (rT rInt) d, .un, .un]) (fun j d => d.length ≤ j ∧ ∀ r, ((dlook d r).getD []).length ≤ j) (it_range rows.length B.range (ev_lenT B.len (ev 0)) rfl (by omega)) (gz_name 4 scKn.nd) ⟨.inr rfl, .inr rfl, .inr rfl, .inr rfl, .inr rfl, .inr rfl, trivial⟩ ⟨Nat.zero_le _, fun r => Nat.zero_le _⟩ (fun j x d hx hd => ?_) (fun j x d hx hd => ?_) (fun hd => ?_)
    · refine ⟨Nat.le_trans (dput_len _ _ _) (by omega), fun r => ?_⟩
      unfold grpS
      rw [dlook_put]
      split
      · have := hd.2 (del i (rows.getD x.toNat []))
        simp [-List.getD_eq_getElem?_getD]
        omega
      · have := hd.2 r
        omega
    · obtain ⟨hj, rfl⟩ := rng_get.mp hx
      rw [show ((0 : Int) + (j : Int)) = (j : Int) by omega]
      refine ss_set 5 scKn.nd (x := del i (rows.getD j [])) (EV.cast (ev_cat (ev_cutS (ev_ixT (ev 0) (ev 4) (atI_nat (hget j hj))) so_none (so i (ev 2)) (by have := hlen j hj; omega)) (ev_cutS (ev_ixT (ev 0) (ev 4) (atI_nat (hget j hj))) (so (i + 1) (ev_add (ev 2) ev_int)) so_none (by have := hlen j hj; omega)) (by have := hlen j hj; simp [-List.getD_eq_getElem?_getD]; omega)) (by simp [del])) ?_
      have hd2 := hd.2 (del i (rows.getD j []))
      refine ss_putK kyT 3 hr (ev_catT (ev_getOr kyT 3 hr (ev 5) (ev_tup (xs := []) ea_nil (Nat.zero_le _)) rfl ⟨rfl, rfl, rfl, rfl⟩) (ev_tup (xs := [(j : Int)]) (ea1 (ev 4)) (by simp)) (by simp [-List.getD_eq_getElem?_getD]; omega)) (ev 5) rfl (by omega) ?_
      exact ss_nil ⟨.inr rfl, .inr rfl, .inr rfl, .inr rfl, .inl rfl, .inl rfl, trivial⟩
    · rw [rng_len] at hd
      have hg : (rng 0 rows.length).foldl (grpS rows i) [] = grp rows i := rfl
      rw [hg] at hd ⊢
      refine ss_forF (fun ac r => ac ++ [((i : Int), r, (dlook (grp rows i) r).getD [])]) acc (fun ac => [.v (rT rTx) rows, .ol (r3 rInt rTx (rT rInt)) ac, .v rInt (i : Int), odT (rT rInt) (grp rows i), .un, .un]) (fun j ac => ac.length ≤ i * 64 + j) (it_L (EO.fz (eo_sortT B.sorted (EL.of (EO.fz (eo_listK (ck := rTx) (kf := kT) (fun x => rfl) 3 B.list rfl))) (by rw [List.length_map]; omega)))) (gz_name 5 scKn.nd) ⟨.inr rfl, .inr rfl, .inr rfl, .inr rfl, .inr rfl, .inr rfl, trivial⟩ ha (fun j x ac hx hj => ?_) (fun j x ac hx hj => ?_) (fun hj => ?_)
      · simp
        omega
      · have hm : x ∈ (grp rows i).map (·.1) := srtT_mem.mp (List.mem_of_getElem? hx)
        have hs := dlook_isSome.mpr hm
        have hlt := (List.getElem?_eq_some_iff.mp hx).1
        rw [srtT_len, List.length_map] at hlt
        refine ss_app 1 rfl (ev_tup3 (ev 2) (ev 5) (ev_getK kyT 3 hr (x := (dlook (grp rows i) x).getD []) (ev 5) rfl (by cases e : dlook (grp rows i) x with | none => rw [e] at hs; cases hs | some y => rfl))) (by omega) ?_
        exact ss_nil ⟨.inr rfl, .inr rfl, .inr rfl, .inr rfl, .inr rfl, .inl rfl, trivial⟩
      · refine ss_nil ?_
        rw [foldl_app (fun r => ((i : Int), r, (dlook (grp rows i) r).getD []))]
        exact ⟨.inr rfl, .inr rfl, .inl rfl, .inl rfl, .inl rfl, .inl rfl, trivial⟩
  · refine ss_ret (ev_tupL B.tuple (el 1)) rfl
end
end Q

set_option Elab.async false
set_option linter.all false
set_option maxRecDepth 100000
set_option maxHeartbeats 4000000
namespace Q
open PySem PySem.Spec PyProof.Rows L2 Z
section
variable {P : Program} {w : World} {K : PySem.W.Frag} {mg : Str → Option Value} {base : Heap}
/-! ### Web.__init__ -/
abbrev sInit : Stmt := inClass (topS 15) 0
theorem scInit : FnScope ["self", "answers", "rows", "places", "index", "told"] ["self", "answers", "rows"] (defScope sInit) := ⟨rfl, rfl, rfl, by decide +kernel, rfl, by decide +kernel, by decide +kernel⟩
theorem D_Web (M : Mt0 K (He.ga K "Web") "__init__" "Web.__init__" sInit) (B : Bt mg) (C : Cn K mg)
    (G1 : Df P w K mg base 1 "is_answers" (fun l : List Nat => [.v rTx l]) (fun l => isAns l = true) (fun _ => rBool) (fun _ => true))
    (G2 : Df P w K mg base 1 "is_row" (fun a : List Nat × Nat × Row => [.v rTx a.1, .v rInt (a.2.1 : Int), .v rTx a.2.2]) (fun a => a.2.2.length ≤ 1000) (fun _ => rBool) (fun a => isRow a.1 a.2.1 a.2.2))
    (G3 : Df P w K mg base 1 "different" (fun a : List Row => [.v (rT rTx) a]) (fun a => a.length < 64) (fun _ => rT rTx) (fun a => diff a))
    (G4 : Df P w K mg base 1 "knots_of" (fun a : List Row => [.v (rT rTx) a]) (fun a => 0 < a.length ∧ a.length < 64 ∧ ∀ r ∈ a, r.length ≤ 100) (fun _ => rKn) (fun a => knots a)) :
    DfC P w K mg base 2 "Web" (He.ga K "Web") (fun a : List Nat × Nat × List Row => [.v rTx a.1, .v (rT rTx) a.2.2]) (fun a => GR a.1 a.2.1 a.2.2) (rWeb K) (fun a => (a.1, diff a.2.2)) := by
  obtain ⟨f, fd, F, hM⟩ := M.ex
  have hf : f = He.ma K (He.ga K "Web") "__init__" := by
    have h1 := hM.at_
    have h2 := C.mkr.init
    rw [h1] at h2
    exact Value.ref.inj (Option.some.inj (Option.some.inj h2))
  refine ⟨f, fd, ["self", "answers", "rows"], F.mkz scInit (fun _ => rfl) (by decide) (fun ⟨ans, n, rows⟩ g x cdv A outer s H E hr => ?_), C.glo, hf ▸ C.mkr, F.bindsN (fun _ _ _ _ _ _ us hl => match us, hl with | [_, _, _], _ => rfl)⟩
  replace g : GR ans n rows := g
  show SS _ _ [.oc x (He.ga K "Web") [], .v rTx ans, .v (rT rTx) rows, .un, .un, .un] (outI x (He.ga K "Web") (webF (ans, diff rows)))
  have hget : ∀ i, i < rows.length → rows[i]? = some (rows.getD i []) := fun i hi => getD_some [] hi
  have hp := g.pos
  have hl := g.le
  have hn1 := g.n1
  have hn6 := g.n6
  have hlr : ∀ i, i < rows.length → (rows.getD i []).length = n := fun i hi => g.len (g.getD hi)
  obtain ⟨t1, hmp⟩ := C.mp
  obtain ⟨t2, hmr⟩ := C.mr
  refine ss_if (eb_not (eb_call G1 hr ans (es_cons (ev 1) es_nil) g.isa)) (fun h => absurd h (by decide)) (fun _ => ss_nil ?_)
  refine ss_if (eb_eqI (ev_lenT B.len (ev 2)) ev_int) (fun h => ?_) (fun _ => ss_nil ?_)
  · exfalso
    simp at h
    subst h
    simp at hp
  refine ss_set 3 scInit.nd (EV.cast (x' := (n : Int)) (ev_lenS B.len (ev_ixT (ev 2) ev_int (atI_nat' (n := 0) rfl (hget 0 hp))) (by have := hlr 0 hp; omega)) (by rw [hlr 0 hp])) ?_
  refine ss_forF (fun (s : Unit) (x : Int) => ()) () (fun _ => [.oc x (He.ga K "Web") [], .v rTx ans, .v (rT rTx) rows, .v rInt (n : Int), .un, .un]) (fun _ _ => True) (it_range rows.length B.range (ev_lenT B.len (ev 2)) rfl (by omega)) (gz_name 4 scInit.nd) ⟨.inr rfl, .inr rfl, .inr rfl, .inr rfl, .inr rfl, .inr rfl, trivial⟩ trivial (fun _ _ _ _ _ => trivial) (fun i y _ hy _ => ?_) (fun _ => ?_)
  · obtain ⟨hi, rfl⟩ := rng_get.mp hy
    refine ss_if (EW.eb (ew_or (eb_lt (ev 3) ev_int) fun _ => ew_or (eb_gt (ev 3) (ev_glob (v := .int 6) hmp ⟨_, rfl⟩ (fun _ => rfl))) fun _ => ew_or1 (eb_not (eb_call G2 hr (ans, n, rows.getD i []) (es_cons (ev 1) (es_cons (ev 3) (es_cons (ev_ixT (ev 2) (ev 4) (atI_nat' (n := i) (by omega) (hget i hi))) es_nil))) (by have := hlr i hi; show (rows.getD i []).length ≤ 1000; omega))))) (fun h => ?_) (fun _ => ?_)
    · exfalso
      simp only [Bool.or_eq_true, decide_eq_true_eq, Bool.not_eq_true'] at h
      rcases h with h | h | h
      · omega
      · omega
      · have := g.row _ (g.getD hi)
        rw [this] at h
        cases h
    · exact ss_nil (ss_nil ⟨.inr rfl, .inr rfl, .inr rfl, .inr rfl, .inl rfl, .inr rfl, trivial⟩)
  · refine ss_set 5 scInit.nd (ev_call G3 hr rows (es_cons (ev 2) es_nil) (by show rows.length < 64; omega)) ?_
    have gd := g.diff
    have hdl := gd.le
    refine ss_if (eb_gt (ev_lenT B.len (ev 5)) (ev_glob (v := .int 32) hmr ⟨_, rfl⟩ (fun _ => rfl))) (fun h => ?_) (fun _ => ss_nil ?_)
    · exfalso
      simp at h
      omega
    refine ss_fld 0 (ev 1) rfl C.cls C.na1 rfl (by simp) ?_
    refine ss_fld 0 (ev 3) rfl C.cls C.na2 rfl (by simp) ?_
    refine ss_fld 0 (ev 5) rfl C.cls C.na3 rfl (by simp) ?_
    refine ss_fld 0 (ev_call G4 hr (diff rows) (es_cons (ev 5) es_nil) ⟨gd.pos, by omega, fun r hr => by have := gd.len hr; omega⟩) rfl C.cls C.na4 rfl (by simp) ?_
    refine ss_nil ?_
    show _ = some (Sl.oc x (He.ga K "Web") (webF (ans, diff rows)))
    unfold webF
    rw [gd.first]
    rfl
end
end Q

set_option Elab.async false
set_option linter.all false
set_option maxRecDepth 100000
set_option maxHeartbeats 4000000
namespace Q
open PySem PySem.Spec PyProof.Rows L2 Z
abbrev WV := List Nat × List Row
theorem GR.good {ans : List Nat} {n : Nat} {rows : List Row} (g : GR ans n rows) : ∀ r ∈ rows, ∀ c ∈ r, c < 0x110000 := fun r hr c hc => by
  have := (isRow_iff.mp (g.row r hr)).2 c hc
  have := (isAns_iff g.isa).2.1 c this
  omega
section
variable (P : Program) (w : World) (K : PySem.W.Frag) (mg : Str → Option Value) (base : Heap)
abbrev T_Web : Prop := DfC P w K mg base 2 "Web" (He.ga K "Web") (fun a : List Nat × Nat × List Row => [.v rTx a.1, .v (rT rTx) a.2.2]) (fun a => GR a.1 a.2.1 a.2.2) (rWeb K) (fun a => (a.1, diff a.2.2))
abbrev T_lowered : Prop := Df P w K mg base 1 "lowered" (fun a : WV × Nat × Row => [.v (rWeb K) a.1, .v rInt (a.2.1 : Int), .v rTx a.2.2]) (fun a => 0 < a.1.1.length ∧ a.1.1.length ≤ 100 ∧ a.2.1 ≤ 100 ∧ a.2.2.length ≤ 100) (fun _ => rTx) (fun a => lowr (a0 a.1.1) a.1.2 a.2.1 a.2.2)
abbrev T_pushed_at : Prop := Df P w K mg base 4 "pushed_at" (fun a : WV × Nat × Nat => [.v (rWeb K) a.1, .v rInt (a.2.1 : Int)]) (fun a => GR a.1.1 a.2.2 a.1.2 ∧ a.2.1 < a.2.2) (fun _ => rWeb K) (fun a => (a.1.1, pushAt a.1.1 a.1.2 a.2.1))
abbrev T_pushed_once : Prop := Df P w K mg base 5 "pushed_once" (fun a : WV × Nat => [.v (rWeb K) a.1]) (fun a => GR a.1.1 a.2 a.1.2) (fun _ => rWeb K) (fun a => (a.1.1, once a.1.1 a.2 a.1.2))
abbrev T_pushed : Prop := Df P w K mg base 6 "pushed" (fun a : WV × Nat => [.v (rWeb K) a.1]) (fun a => GR a.1.1 a.2 a.1.2 ∧ once a.1.1 a.2 (once a.1.1 a.2 a.1.2) = once a.1.1 a.2 a.1.2) (fun _ => rWeb K) (fun a => (a.1.1, once a.1.1 a.2 a.1.2))
abbrev T_marks_of : Prop := Df P w K mg base 1 "marks_of" (fun a : Nat × List Int => [.v rInt (a.1 : Int), .v (rT rInt) a.2]) (fun a => a.1 ≤ 1000 ∧ ∀ i ∈ a.2, 0 ≤ i ∧ i < a.1) (fun _ => rT rBool) (fun a => marks a.1 a.2)
abbrev T_inside_of : Prop := Df P w K mg base 1 "inside_of" (fun a : List Int × List Bool => [.v (rT rInt) a.1, .v (rT rBool) a.2]) (fun a => a.1.length ≤ 1000 ∧ ∀ i ∈ a.1, 0 ≤ i ∧ i < a.2.length) (fun _ => rInt) (fun a => ((inside a.1 a.2).length : Int))
/-- Web == Web -/
structure T_eq : Prop where
  ex : ∃ (f : Addr) (fd : FuncData) (ps : List Str), FnOk P w K mg base CX0 1 f fd ps (spZ K (fun a : WV × WV => [.v (rWeb K) a.1, .v (rWeb K) a.2]) (fun a => (∀ r ∈ a.1.2, ∀ c ∈ r, c < 0x110000) ∧ ∀ r ∈ a.2.2, ∀ c ∈ r, c < 0x110000) (fun _ => rBool) (fun a => decide (a.1 = a.2))) ∧ Binds K fd ps [] ∧ Nee K (He.ga K "Web") f
end
section
variable {P : Program} {w : World} {K : PySem.W.Frag} {mg : Str → Option Value} {base : Heap}
/-! ### Web.__eq__ -/
abbrev sEq : Stmt := inClass (topS 15) 4
theorem scEq : FnScope ["self", "other"] ["self", "other"] (defScope sEq) := ⟨rfl, rfl, rfl, by decide +kernel, rfl, by decide +kernel, by decide +kernel⟩
theorem D_eq (M : Mt0 K (He.ga K "Web") "__eq__" "Web.__eq__" sEq) (B : Bt mg) (C : Cn K mg) : T_eq P w K mg base := by
  obtain ⟨f, fd, F, hM⟩ := M.ex
  refine ⟨f, fd, ["self", "other"], F.z scEq (fun _ => rfl) (by decide) fun ⟨x, y⟩ hz cdv A outer s H E hr => ?_, F.bindsN (fun _ _ _ _ _ _ us hl => match us, hl with | [_, _], _ => rfl), ⟨⟨hM.at_, hM.fn⟩, C.ne, C.isi.mr⟩⟩
  obtain ⟨h1, h2⟩ := hz
  show SS _ _ [.v (rWeb K) x, .v (rWeb K) y] (outR rBool (decide (x = y)))
  refine ss_if (eb_not (EB.of (eb_isiOwn B.isin (ev 1) C.cls C.isi C.glo))) (fun h => absurd h (by decide)) (fun _ => ss_nil ?_)
  refine ss_ret (ev_and (ev_eqT (ev_fld (ev 0) C.cls C.na1 rfl) (ev_fld (ev 1) C.cls C.na1 rfl)) fun _ => ev_one (ev_eqD (dT dTx) hr (ev_fld (ev 0) C.cls C.na3 rfl) (ev_fld (ev 1) C.cls C.na3 rfl) h1 h2)) ?_
  obtain ⟨x1, x2⟩ := x
  obtain ⟨y1, y2⟩ := y
  show (decide (x1 = y1) && decide (x2 = y2)) = decide ((x1, x2) = (y1, y2))
  rw [← Bool.decide_and]
  exact decide_eq_decide.mpr (by simp)
/-! ### lowered -/
abbrev sLow : Stmt := topS 18
theorem scLow : FnScope ["web", "place", "row", "lower"] ["web", "place", "row"] (defScope sLow) := ⟨rfl, rfl, rfl, by decide +kernel, rfl, by decide +kernel, by decide +kernel⟩
theorem D_lowered (F : Fn0 K mg "lowered" sLow []) (C : Cn K mg) : T_lowered P w K mg base := by
  refine F.df scLow (fun _ => rfl) (by decide) (fun _ _ _ _ _ _ us hl => match us, hl with | [_, _, _], _ => rfl) fun ⟨x, p, r⟩ hz f cdv A outer s H E hr => ?_
  obtain ⟨h0, h1, h2, h3⟩ := hz
  dsimp only at h0 h1 h2 h3
  show SS _ _ [.v (rWeb K) x, .v rInt (p : Int), .v rTx r, .un] (outR rTx (lowr (a0 x.1) x.2 p r))
  refine ss_set 3 scLow.nd (x := low (a0 x.1) p r) (EV.cast (ev_cat (ev_cat (ev_cutS (ev 2) so_none (so p (ev 1)) (by omega)) (ev_ixS (ev_fld (ev 0) C.cls C.na1 rfl) ev_int (atI_nat' (n := 0) rfl (getD_some 0 h0)) (by omega)) (by simp; omega)) (ev_cutS (ev 2) (so (p + 1) (ev_add (ev 1) ev_int)) so_none (by omega)) (by simp; omega)) (by simp [low, a0])) ?_
  refine ss_if (eb_inTT (ev 3) (ev_fld (ev 0) C.cls C.na3 rfl)) (fun h => ss_ret (ev 2) ?_) (fun h => ss_nil (ss_ret (ev 3) ?_))
  · show r = lowr (a0 x.1) x.2 p r
    unfold lowr
    rw [if_pos (of_decide_eq_true h)]
  · show _ = lowr (a0 x.1) x.2 p r
    unfold lowr
    rw [if_neg (of_decide_eq_false h)]
/-! ### pushed_at -/
abbrev sPat : Stmt := topS 19
theorem scPat : FnScope ["web", "place", "row"] ["web", "place"] (defScope sPat) := ⟨rfl, rfl, rfl, by decide +kernel, rfl, by decide +kernel, by decide +kernel⟩
theorem D_pushed_at (F : Fn0 K mg "pushed_at" sPat []) (B : Bt mg) (C : Cn K mg) (G1 : T_lowered P w K mg base) (G2 : T_Web P w K mg base) : T_pushed_at P w K mg base := by
  refine F.df scPat (fun _ => rfl) (by decide) (fun _ _ _ _ _ _ us hl => match us, hl with | [_, _], _ => rfl) fun ⟨x, p, n⟩ hz f cdv A outer s H E hr => ?_
  obtain ⟨g, hp⟩ := hz
  dsimp only at g hp
  show SS _ _ [.v (rWeb K) x, .v rInt (p : Int), .un] (outR (rWeb K) (x.1, pushAt x.1 x.2 p))
  have ha := isAns_iff g.isa
  have h6 := g.n6
  have hl := g.le
  refine ss_ret (ev_mak G2 hr (x.1, n, pmap x.1 x.2 p) (es_cons (ev_fld (ev 0) C.cls C.na1 rfl) (es_cons (ev_tupL B.tuple (EL.of (EO.fz (eo_lc0 (lowr (a0 x.1) x.2 p) scPat.nd (it_T (ev_fld (ev 0) C.cls C.na3 rfl)) (own := [("row", 2)]) (blkOk_by (by kernel_rfl)) (fun _ _ _ _ _ => gz_name 2 scPat.nd) (by decide) (fun s H C' cl fp r hr' => ev_cal G1 (hr.mono (by decide)) (x, p, r) (es_cons (ev 0) (es_cons (ev 1) (es_cons (ev 2) es_nil))) ⟨by show 0 < x.1.length; omega, by show x.1.length ≤ 100; omega, by show p ≤ 100; omega, by have := g.len hr'; show r.length ≤ 100; omega⟩) (by omega))))) es_nil)) (g.pmap hp)) ?_
  rfl
end
end Q

set_option Elab.async false
set_option linter.all false
set_option maxRecDepth 100000
set_option maxHeartbeats 4000000
namespace Q
open PySem PySem.Spec PyProof.Rows L2 Z
section
variable (P : Program) (w : World) (K : PySem.W.Frag) (mg : Str → Option Value) (base : Heap)
abbrev T_surplus_of : Prop := Df P w K mg base 2 "surplus_of" (fun a : WV × List Int => [.v (rWeb K) a.1, .v (rT rInt) a.2]) (fun a => a.1.2.length ≤ 1000 ∧ (a.1.2.getD 0 []).length ≤ 1000 ∧ ∀ i ∈ a.2, 0 ≤ i ∧ i < a.1.2.length) (fun _ => rInt) (fun a => surp (knots a.1.2) (marks a.1.2.length a.2) 1)
end
section
variable {P : Program} {w : World} {K : PySem.W.Frag} {mg : Str → Option Value} {base : Heap}
/-! ### pushed_once -/
abbrev sPon : Stmt := topS 21
theorem scPon : FnScope ["web", "told", "place"] ["web"] (defScope sPon) := ⟨rfl, rfl, rfl, by decide +kernel, rfl, by decide +kernel, by decide +kernel⟩
theorem D_pushed_once (F : Fn0 K mg "pushed_once" sPon []) (B : Bt mg) (C : Cn K mg) (G1 : T_pushed_at P w K mg base) : T_pushed_once P w K mg base := by
  refine F.df scPon (fun _ => rfl) (by decide) (fun _ _ _ _ _ _ us hl => match us, hl with | [_], _ => rfl) fun ⟨⟨ans, rows⟩, n⟩ hz f cdv A outer s H E hr => ?_
  replace hz : GR ans n rows := hz
  have h6 := hz.n6
  show SS _ _ [.v (rWeb K) (ans, rows), .un, .un] (outR (rWeb K) (ans, once ans n rows))
  refine ss_set 1 scPon.nd (ev 0) ?_
  refine ss_forF (fun rs (p : Int) => pushAt ans rs p.toNat) rows (fun rs => [.v (rWeb K) (ans, rows), .v (rWeb K) (ans, rs), .un]) (fun _ rs => GR ans n rs) (it_range n B.range (ev_fld (ev 0) C.cls C.na2 rfl) (by show ((rows.getD 0 []).length : Int) = n; rw [hz.first]) (by omega)) (gz_name 2 scPon.nd) ⟨.inr rfl, .inr rfl, .inr rfl, trivial⟩ hz (fun i x rs hx g => ?_) (fun i x rs hx g => ?_) (fun _ => ?_)
  · obtain ⟨hi, rfl⟩ := rng_get.mp hx
    exact g.pushAt (by omega)
  · obtain ⟨hi, rfl⟩ := rng_get.mp hx
    rw [show ((0 : Int) + (i : Int)) = (i : Int) by omega, Int.toNat_natCast]
    refine ss_set 1 scPon.nd (ev_cal G1 hr ((ans, rs), i, n) (es_cons (ev 1) (es_cons (ev 2) es_nil)) ⟨g, hi⟩) ?_
    exact ss_nil ⟨.inr rfl, .inr rfl, .inl rfl, trivial⟩
  · exact ss_ret (ev 1) rfl
/-! ### pushed -/
abbrev sPus : Stmt := topS 20
theorem scPus : FnScope ["web", "before", "after"] ["web"] (defScope sPus) := ⟨rfl, rfl, rfl, by decide +kernel, rfl, by decide +kernel, by decide +kernel⟩
theorem D_pushed (F : Fn0 K mg "pushed" sPus []) (B : Bt mg) (C : Cn K mg) (G1 : T_pushed_once P w K mg base) (G2 : T_eq P w K mg base) : T_pushed P w K mg base := by
  refine F.df scPus (fun _ => rfl) (by decide) (fun _ _ _ _ _ _ us hl => match us, hl with | [_], _ => rfl) fun ⟨⟨ans, rows⟩, n⟩ hz f cdv A outer s H E hr => ?_
  obtain ⟨g, h2⟩ := hz
  dsimp only at g h2
  obtain ⟨f', fd', ps', G3, hb, hne⟩ := G2.ex
  have g1 := g.once
  show SS _ _ [.v (rWeb K) (ans, rows), .un, .un] (outR (rWeb K) (ans, once ans n rows))
  refine ss_set 1 scPus.nd (ev 0) ?_
  refine ss_set 2 scPus.nd (ev_cal G1 hr ((ans, rows), n) (es_cons (ev 0) es_nil) g) ?_
  refine ss_while (fun m Γ => ∃ rs, GR ans n rs ∧ Γ = [.v (rWeb K) (ans, rows), .v (rWeb K) (ans, rs), .v (rWeb K) (ans, once ans n rows)] ∧ (m = 0 → rs = once ans n rows)) 1 ⟨rows, g, rfl, fun h => by cases h⟩ (fun m Γ ⟨rs, gr, e, h0⟩ => ?_)
  subst e
  refine ⟨_, eb_neO (m := fun a : WV × WV => decide (a.1 = a.2)) G3 hb hne (hr.mono (by decide)) (ev 2) (ev 1) ((ans, once ans n rows), (ans, rs)) rfl ⟨g1.good, gr.good⟩, fun h => ?_, fun h => ?_⟩
  · refine ss_set 1 scPus.nd (ev 2) ?_
    refine ss_set 2 scPus.nd (x := (ans, once ans n rows)) (ev_cal G1 hr ((ans, once ans n rows), n) (es_cons (ev 1) es_nil) g1 (by show (ans, once ans n (once ans n rows)) = _; rw [h2])) ?_
    refine ss_nil ⟨0, ?_, once ans n rows, g1, rfl, fun _ => rfl⟩
    cases m with
    | zero => simp [h0 rfl] at h
    | succ m => omega
  · exact ss_ret (ev 2) rfl
/-! ### marks_of -/
abbrev sMar : Stmt := topS 23
theorem scMar : FnScope ["count", "lot", "marks", "index", "_"] ["count", "lot"] (defScope sMar) := ⟨rfl, rfl, rfl, by decide +kernel, rfl, by decide +kernel, by decide +kernel⟩
theorem D_marks_of (F : Fn0 K mg "marks_of" sMar []) (B : Bt mg) : T_marks_of P w K mg base := by
  refine F.df scMar (fun _ => rfl) (by decide) (fun _ _ _ _ _ _ us hl => match us, hl with | [_, _], _ => rfl) fun ⟨n, lot⟩ hz f cdv A outer s H E hr => ?_
  obtain ⟨h1, h2⟩ := hz
  dsimp only at h1 h2
  show SS _ _ [.v rInt (n : Int), .v (rT rInt) lot, .un, .un, .un] (outR (rT rBool) (marks n lot))
  refine ss_setLc 2 (fun _ => true) (fun _ => false) scMar.nd (it_range n B.range (ev 0) rfl (by omega)) (own := [("_", 4)]) (blkOk_by (by kernel_rfl)) (fun _ _ _ _ _ => gz_name 4 scMar.nd) (by decide) (fun _ _ _ _ _ _ _ => ebs_nil) (fun _ _ _ _ _ _ _ _ => ev_bl) (by rw [rng_len]; omega) ?_
  have e : ((rng 0 n).filter fun _ => true).map (fun _ => false) = List.replicate n false := by
    rw [List.filter_eq_self.mpr (fun _ _ => rfl), List.map_const', rng_len]
  rw [e]
  refine ss_forF (fun (m : List Bool) (i : Int) => m.set i.toNat true) (List.replicate n false) (fun m => [.v rInt (n : Int), .v (rT rInt) lot, .ol rBool m, .un, .un]) (fun _ m => m.length = n) (it_T (ev 1)) (gz_name 3 scMar.nd) ⟨.inr rfl, .inr rfl, .inr rfl, .inr rfl, .inr rfl, trivial⟩ (by simp) (fun i x m hx hm => by simp [hm]) (fun i x m hx hm => ?_) (fun _ => ?_)
  · have := h2 x (List.mem_of_getElem? hx)
    refine ss_store 2 rfl (ev 3) ev_bl (m := x.toNat) (by omega) (by omega) ?_
    exact ss_nil ⟨.inr rfl, .inr rfl, .inr rfl, .inl rfl, .inr rfl, trivial⟩
  · exact ss_ret (ev_tupL B.tuple (el 2)) rfl
/-! ### inside_of -/
abbrev sIns : Stmt := topS 24
theorem scIns : FnScope ["members", "marks", "index"] ["members", "marks"] (defScope sIns) := ⟨rfl, rfl, rfl, by decide +kernel, rfl, by decide +kernel, by decide +kernel⟩
theorem D_inside_of (F : Fn0 K mg "inside_of" sIns []) (B : Bt mg) : T_inside_of P w K mg base := by
  refine F.df scIns (fun _ => rfl) (by decide) (fun _ _ _ _ _ _ us hl => match us, hl with | [_, _], _ => rfl) fun ⟨ms, mk⟩ hz f cdv A outer s H E hr => ?_
  obtain ⟨h1, h2⟩ := hz
  dsimp only at h1 h2
  show SS _ _ [.v (rT rInt) ms, .v (rT rBool) mk, .un] (outR rInt ((inside ms mk).length : Int))
  refine ss_ret (ev_lenL B.len (EL.of (EO.fz (eo_lc (fun i : Int => mk.getD i.toNat false) (fun i => i) scIns.nd (it_T (ev 0)) (own := [("index", 2)]) (blkOk_by (by kernel_rfl)) (fun _ _ _ _ _ => gz_name 2 scIns.nd) (by decide) (fun s H C cl fp i hi => ebs1 (EB.of (ev_ixT (ev 1) (ev 2) (atI_nat' (n := i.toNat) (by have := h2 i hi; omega) (getD_some false (by have := h2 i hi; omega)))))) (fun _ _ _ _ _ _ _ _ => ev 2) (by omega))))) ?_
  show ((List.map (fun i => i) (ms.filter fun i => mk.getD i.toNat false)).length : Int) = _
  rw [List.length_map]
  rfl
theorem marks_len (n : Nat) (lot : List Int) : (marks n lot).length = n := by
  have : ∀ (xs : List Int) (m : List Bool), (xs.foldl (fun m i => m.set i.toNat true) m).length = m.length := by
    intro xs
    induction xs with
    | nil => intro m; rfl
    | cons x xs ih => intro m; rw [List.foldl_cons, ih, List.length_set]
  unfold marks
  rw [this, List.length_replicate]
/-! ### surplus_of -/
abbrev sSur : Stmt := topS 25
theorem scSur : FnScope ["web", "lot", "tries", "marks", "knot"] ["web", "lot", "tries"] (defScope sSur) := ⟨rfl, rfl, rfl, by decide +kernel, rfl, by decide +kernel, by decide +kernel⟩
theorem D_surplus_of (F : Fn0 K mg "surplus_of" sSur [("tries", .int 1)]) (B : Bt mg) (C : Cn K mg) (G1 : T_marks_of P w K mg base) (G2 : T_inside_of P w K mg base) : T_surplus_of P w K mg base := by
  refine F.dfk (As' := fun a : WV × List Int => [.v (rWeb K) a.1, .v (rT rInt) a.2, .v rInt 1]) scSur 2 (by simp) rfl (fun _ => rfl) (by decide) (fun _ _ _ _ _ _ us ks hl lk => match us, hl, ks, lk with | [_, _], _, [_], _ => ⟨_, _, _, _, _, _, rfl, rfl, rfl⟩) (fun a F vs h => ?_) fun ⟨x, lot⟩ hz f cdv A outer s H E hr => ?_
  · match vs, h with
    | [_, _], .cons h1 (.cons h2 .nil) => exact .cons h1 (.cons h2 (.cons rfl .nil))
  obtain ⟨h1, h3, h2⟩ := hz
  dsimp only at h1 h2 h3
  show SS _ _ [.v (rWeb K) x, .v (rT rInt) lot, .v rInt 1, .un, .un] (outR rInt (surp (knots x.2) (marks x.2.length lot) 1))
  refine ss_set 3 scSur.nd (ev_cal G1 hr (x.2.length, lot) (es_cons (ev_lenT B.len (ev_fld (ev 0) C.cls C.na3 rfl)) (es_cons (ev 1) es_nil)) ⟨h1, h2⟩) ?_
  have hk : (knots x.2).length ≤ 16777216 := by
    have := knots_len x.2
    have h4 : (x.2.getD 0 []).length * x.2.length ≤ 1000 * 1000 := Nat.mul_le_mul h3 h1
    omega
  refine ss_ret (ev_sum rfl B.sum (EL.of (EO.fz (eo_lc0 (fun k : Int × Row × List Int => max 0 (((inside k.2.2 (marks x.2.length lot)).length : Int) - 1)) scSur.nd (it_T (ev_fld (ev 0) C.cls C.na4 rfl)) (own := [("knot", 4)]) (blkOk_by (by kernel_rfl)) (fun _ _ _ _ _ => gz_name 4 scSur.nd) (by decide) (fun s H C cl fp k hk => ev_max2 rfl B.max ev_int (ev_sub (ev_cal G2 (hr.mono (by decide)) (k.2.2, marks x.2.length lot) (es_cons (ev_k3 (ev 4)) (es_cons (ev 3) es_nil)) ⟨by have := knots_ms hk; show k.2.2.length ≤ 1000; omega, by rw [marks_len]; exact (knots_ms hk).2⟩) (ev 2))) hk)))) ?_
  rfl
end
end Q

set_option Elab.async false
set_option linter.all false
set_option maxRecDepth 100000
set_option maxHeartbeats 4000000
namespace Q
open PySem PySem.Spec PyProof.Rows L2 Z
abbrev rLK : Rp (List (Int × Row × List Int)) := rL (rL3 rInt rTx (rL rInt))
section
variable (P : Program) (w : World) (K : PySem.W.Frag) (mg : Str → Option Value) (base : Heap)
abbrev T_lots : Prop := Df P w K mg base 1 "_law_lots" (fun a : Nat => [.v rInt (a : Int)]) (fun a => a ≤ 10) (fun _ => rL (rT rInt)) lots
abbrev T_all_rows : Prop := Df P w K mg base 1 "_law_all_rows" (fun a : List Nat × Nat => [.v rTx a.1, .v rInt (a.2 : Int)]) (fun a => a.1.length ≤ 4 ∧ a.2 ≤ 6) (fun _ => rL rTx) (fun a => allRows a.1 a.2)
abbrev T_lsurp : Prop := Df P w K mg base 1 "_law_surplus" (fun a : List (Int × Row × List Int) × List Int => [.v rLK a.1, .v (rT rInt) a.2, .v rInt 1]) (fun a => a.1.length ≤ 1000 ∧ a.2.length ≤ 1000 ∧ ∀ k ∈ a.1, k.2.2.length ≤ 1000) (fun _ => rInt) (fun a => lsurp a.1 a.2 1)
abbrev T_is_full : Prop := Df P w K mg base 1 "_law_is_full" (fun a : List Nat × List Row × List Int => [.v rTx a.1, .v (rL rTx) a.2.1, .v (rT rInt) a.2.2]) (fun a => a.1.length ≤ 100 ∧ a.2.1.length ≤ 1000 ∧ a.2.2.length ≤ 100 ∧ ∀ r ∈ a.2.1, ∀ i ∈ a.2.2, 0 ≤ i ∧ i < r.length ∧ r.length ≤ 100) (fun _ => rBool) (fun a => isFull a.1 a.2.1 a.2.2)
abbrev T_full_sets : Prop := Df P w K mg base 2 "_law_full_sets" (fun a : List Nat × Nat × List Row => [.v rTx a.1, .v (rL rTx) a.2.2]) (fun a => GR a.1 a.2.1 a.2.2) (fun _ => rL (rT rInt)) (fun a => fullSets a.1 a.2.1 a.2.2)
abbrev T_lpush : Prop := Df P w K mg base 1 "_law_push" (fun a : List Nat × Nat × List Row × Nat => [.v rTx a.1, .v (rL rTx) a.2.2.1, .v rInt (a.2.2.2 : Int)]) (fun a => GR a.1 a.2.1 a.2.2.1 ∧ a.2.2.2 ≤ 100) (fun _ => rL rTx) (fun a => lpush a.1 a.2.2.1 a.2.2.2)
abbrev T_closed : Prop := Df P w K mg base 1 "_law_closed" (fun a : List Nat × Nat × List Row => [.v rTx a.1, .v (rL rTx) a.2.2]) (fun a => GR a.1 a.2.1 a.2.2 ∧ Closed a.1 a.2.1 a.2.2) (fun _ => rBool) (fun _ => true)
end
section
variable {P : Program} {w : World} {K : PySem.W.Frag} {mg : Str → Option Value} {base : Heap}
/-! ### lots -/
abbrev sLot : Stmt := topS 29
theorem scLot : FnScope ["count", "found", "k", "lot"] ["count"] (defScope sLot) := ⟨rfl, rfl, rfl, by decide +kernel, rfl, by decide +kernel, by decide +kernel⟩
theorem D_lots (F : Fn0 K mg "_law_lots" sLot []) (B : Bt mg) : T_lots P w K mg base := by
  refine F.df scLot (fun _ => rfl) (by decide) (fun _ _ _ _ _ _ us hl => match us, hl with | [_], _ => rfl) fun n hz f cdv A outer s H E hr => ?_
  show SS _ _ [.v rInt (n : Int), .un, .un, .un] (outR (rL (rT rInt)) (lots n))
  refine ss_setO 1 scLot.nd (eo_lst (c := rT rInt) (xs := [[]]) (ea1 (ev_tup (xs := []) ea_nil (Nat.zero_le _))) (by decide)) ?_
  refine ss_fz 1 rfl ?_
  refine ss_forF lotS [[]] (fun f => [.v rInt (n : Int), .v (rL (rT rInt)) f, .un, .un]) (fun i f => f.length ≤ 2 ^ i ∧ ∀ l ∈ f, l.length ≤ i) (it_range n B.range (ev 0) rfl (by omega)) (gz_name 2 scLot.nd) ⟨.inr rfl, .inr rfl, .inr rfl, .inr rfl, trivial⟩ ⟨Nat.le_refl _, fun l hl => by rw [List.mem_singleton.mp hl]; exact Nat.le_refl _⟩ (fun i k f hx ⟨h1, h2⟩ => ?_) (fun i k f hx hf => ?_) (fun _ => ss_ret (ev 1) rfl)
  · unfold lotS
    refine ⟨by rw [List.length_append, List.length_map, Nat.pow_succ]; omega, fun l hl => ?_⟩
    rcases List.mem_append.mp hl with hl | hl
    · have := h2 l hl
      omega
    · obtain ⟨m, hm, rfl⟩ := List.mem_map.mp hl
      have := h2 m hm
      simp
      omega
  · obtain ⟨hi, rfl⟩ := rng_get.mp hx
    have hp : 2 ^ i ≤ 2 ^ 10 := Nat.pow_le_pow_right (by decide) (by omega)
    have h1 := hf.1
    refine ss_setO 1 scLot.nd (eo_catL (ev 1) (EO.fz (eo_lc0 (fun l : List Int => l ++ [(0 + (i : Int))]) scLot.nd (it_L (ev 1)) (own := [("lot", 3)]) (blkOk_by (by kernel_rfl)) (fun _ _ _ _ _ => gz_name 3 scLot.nd) (by decide) (fun s H C cl fp l hl => ev_catT (ev 3) (ev_tup (xs := [_]) (ea1 (ev 2)) (by simp)) (by have := hf.2 l hl; simp; omega)) (by omega))) (by rw [List.length_map]; omega)) ?_
    refine ss_fz 1 rfl ?_
    exact ss_nil ⟨.inr rfl, .inr rfl, .inl rfl, .inr rfl, trivial⟩
/-! ### all rows -/
abbrev sAll : Stmt := topS 30
theorem scAll : FnScope ["answers", "places", "found", "k", "grown", "row", "letter"] ["answers", "places"] (defScope sAll) := ⟨rfl, rfl, rfl, by decide +kernel, rfl, by decide +kernel, by decide +kernel⟩
theorem D_all_rows (F : Fn0 K mg "_law_all_rows" sAll []) (B : Bt mg) : T_all_rows P w K mg base := by
  refine F.df scAll (fun _ => rfl) (by decide) (fun _ _ _ _ _ _ us hl => match us, hl with | [_, _], _ => rfl) fun ⟨ans, n⟩ hz f cdv A outer s H E hr => ?_
  obtain ⟨ha, hn⟩ := hz
  dsimp only at ha hn
  show SS _ _ [.v rTx ans, .v rInt (n : Int), .un, .un, .un, .un, .un] (outR (rL rTx) (allRows ans n))
  refine ss_setO 2 scAll.nd (eo_lst (c := rTx) (xs := [[]]) (ea1 (ev_str [])) (by decide)) ?_
  refine ss_fz 2 rfl ?_
  refine ss_forF (fun f _ => growR ans f) [[]] (fun f => [.v rTx ans, .v rInt (n : Int), .v (rL rTx) f, .un, .un, .un, .un]) (fun i f => f.length ≤ 4 ^ i ∧ ∀ r ∈ f, r.length ≤ i) (it_range n B.range (ev 1) rfl (by omega)) (gz_name 3 scAll.nd) ⟨.inr rfl, .inr rfl, .inr rfl, .inr rfl, .inr rfl, .inr rfl, .inr rfl, trivial⟩ ⟨Nat.le_refl _, fun l hl => by rw [List.mem_singleton.mp hl]; exact Nat.le_refl _⟩ (fun i k f hx ⟨h1, h2⟩ => ?_) (fun i k f hx hf => ?_) (fun _ => ss_ret (ev 2) rfl)
  · refine ⟨?_, fun r hr => ?_⟩
    · rw [growR_len, Nat.pow_succ]
      exact Nat.mul_le_mul h1 ha
    · rw [growR_eq] at hr
      obtain ⟨t, ht, hr⟩ := List.mem_flatMap.mp hr
      obtain ⟨c, hc, rfl⟩ := List.mem_map.mp hr
      have := h2 t ht
      simp
      omega
  · obtain ⟨hi, rfl⟩ := rng_get.mp hx
    have hp : 4 ^ i ≤ 4 ^ 6 := Nat.pow_le_pow_right (by decide) (by omega)
    have h1 := hf.1
    refine ss_setO 4 scAll.nd (eo_nil (c := rTx)) ?_
    refine ss_forF (fun acc r => acc ++ ans.map fun c => r ++ [c]) [] (fun acc => [.v rTx ans, .v rInt (n : Int), .v (rL rTx) f, .un, .ol rTx acc, .un, .un]) (fun j acc => acc.length ≤ j * 4) (it_L (ev 2)) (gz_name 5 scAll.nd) ⟨.inr rfl, .inr rfl, .inr rfl, .inl rfl, .inr rfl, .inr rfl, .inr rfl, trivial⟩ (Nat.zero_le _) (fun j r acc hx hj => ?_) (fun j r acc hx hj => ?_) (fun _ => ?_)
    · rw [List.length_append, List.length_map]
      omega
    · have hlt := (List.getElem?_eq_some_iff.mp hx).1
      have hrl := hf.2 r (List.mem_of_getElem? hx)
      refine ss_forF (fun ac (l : List Nat) => ac ++ [r ++ l]) acc (fun ac => [.v rTx ans, .v rInt (n : Int), .v (rL rTx) f, .un, .ol rTx ac, .v rTx r, .un]) (fun m ac => ac.length ≤ j * 4 + m) (it_S (l := ans) (ev 0)) (gz_name 6 scAll.nd) ⟨.inr rfl, .inr rfl, .inr rfl, .inr rfl, .inr rfl, .inr rfl, .inr rfl, trivial⟩ hj (fun m l ac hy hm => by simp; omega) (fun m l ac hy hm => ?_) (fun _ => ?_)
      · have hm2 := (List.getElem?_eq_some_iff.mp hy).1
        rw [List.length_map] at hm2
        rw [List.getElem?_map] at hy
        obtain ⟨c, _, rfl⟩ := Option.map_eq_some_iff.mp hy
        refine ss_app 4 rfl (ev_cat (ev 5) (ev 6) (by simp; omega)) (by omega) ?_
        exact ss_nil ⟨.inr rfl, .inr rfl, .inr rfl, .inr rfl, .inr rfl, .inr rfl, .inl rfl, trivial⟩
      · refine ss_nil ?_
        rw [foldl_app (fun l => r ++ l), List.map_map]
        exact ⟨.inr rfl, .inr rfl, .inr rfl, .inr rfl, .inr rfl, .inl rfl, .inr rfl, trivial⟩
    · refine ss_setO 2 scAll.nd (eo_listL B.list (el 4)) ?_
      refine ss_fz 2 rfl ?_
      exact ss_nil ⟨.inr rfl, .inr rfl, .inr rfl, .inr rfl, .inl rfl, .inr rfl, .inr rfl, trivial⟩
/-! ### the law's surplus -/
abbrev sLsu : Stmt := topS 32
theorem scLsu : FnScope ["knots", "lot", "many", "inside", "index", "whole", "knot"] ["knots", "lot", "many"] (defScope sLsu) := ⟨rfl, rfl, rfl, by decide +kernel, rfl, by decide +kernel, by decide +kernel⟩
theorem D_lsurp (F : Fn0 K mg "_law_surplus" sLsu []) (B : Bt mg) : T_lsurp P w K mg base := by
  refine F.df scLsu (fun _ => rfl) (by decide) (fun _ _ _ _ _ _ us hl => match us, hl with | [_, _, _], _ => rfl) fun ⟨ks, lot⟩ hz f cdv A outer s H E hr => ?_
  obtain ⟨h1, h2, h3⟩ := hz
  dsimp only at h1 h2 h3
  show SS _ _ [.v rLK ks, .v (rT rInt) lot, .v rInt 1, .un, .un, .un, .un] (outR rInt (lsurp ks lot 1))
  refine ss_setO 3 scLsu.nd (eo_dictI (c := rBool)) ?_
  refine ss_forF (fun (d : List (Int × Bool)) i => dput d i true) [] (fun d => [.v rLK ks, .v (rT rInt) lot, .v rInt 1, odI rBool d, .un, .un, .un]) (fun i d => d.length ≤ i) (it_T (ev 1)) (gz_name 4 scLsu.nd) ⟨.inr rfl, .inr rfl, .inr rfl, .inr rfl, .inr rfl, .inr rfl, .inr rfl, trivial⟩ (Nat.zero_le _) (fun i x d hx hd => ?_) (fun i x d hx hd => ?_) (fun _ => ?_)
  · have := dput_len d x true
    omega
  · have hi := (List.getElem?_eq_some_iff.mp hx).1
    refine ss_putK kyI 3 hr ev_bl (ev 4) rfl (by omega) ?_
    exact ss_nil ⟨.inr rfl, .inr rfl, .inr rfl, .inr rfl, .inl rfl, .inr rfl, .inr rfl, trivial⟩
  · show SS _ _ [.v rLK ks, .v (rT rInt) lot, .v rInt 1, odI rBool (insD lot), .un, .un, .un] _
    refine ss_set 5 scLsu.nd ev_int ?_
    refine ss_forF (fun (w : Int) (k : Int × Row × List Int) => w + max 0 (((k.2.2.filter fun i => (dlook (insD lot) i).isSome).length : Int) - 1)) 0 (fun w => [.v rLK ks, .v (rT rInt) lot, .v rInt 1, odI rBool (insD lot), .un, .v rInt w, .un]) (fun _ _ => True) (it_L (ev 0)) (gz_name 6 scLsu.nd) ⟨.inr rfl, .inr rfl, .inr rfl, .inr rfl, .inr rfl, .inr rfl, .inr rfl, trivial⟩ trivial (fun _ _ _ _ _ => trivial) (fun i k w hx _ => ?_) (fun _ => ss_ret (ev 5) rfl)
    have hk := h3 k (List.mem_of_getElem? hx)
    refine ss_set 5 scLsu.nd (ev_add (ev 5) (ev_max2 rfl B.max ev_int (ev_sub (ev_lenL B.len (EL.of (EO.fz (eo_lc (fun i : Int => (dlook (insD lot) i).isSome) (fun i => i) scLsu.nd (it_L (ev_kL3 (ev 6))) (own := [("index", 4)]) (blkOk_by (by kernel_rfl)) (fun _ _ _ _ _ => gz_name 4 scLsu.nd) (by decide) (fun s H C cl fp i hi => ebs1 (eb_inK kyI 3 hr (ev 4) rfl)) (fun _ _ _ _ _ _ _ _ => ev 4) (Nat.le_trans hk (by decide)))))) (ev 2)))) ?_
    refine ss_nil ?_
    rw [List.map_id']
    exact ⟨.inr rfl, .inr rfl, .inr rfl, .inr rfl, .inr rfl, .inr rfl, .inl rfl, trivial⟩
end
end Q

set_option Elab.async false
set_option linter.all false
set_option maxRecDepth 100000
set_option maxHeartbeats 4000000
namespace Q
open PySem PySem.Spec PyProof.Rows L2 Z
theorem flatten_one (f : Int → Nat) (ps : List Int) : joinT [] (ps.map fun i => [f i]) = ps.map f := by
  rw [joinT_nil]
  induction ps with
  | nil => rfl
  | cons p ps ih => rw [List.map_cons, List.flatten_cons, ih, List.map_cons]; rfl
theorem sum_ones (f : Int → Nat) (ps : List Int) : ((ps.map fun i => [f i]).map (·.length)).sum = ps.length := by
  induction ps with
  | nil => rfl
  | cons p ps ih => rw [List.map_cons, List.map_cons, List.sum_cons, ih, List.length_cons]; simp; omega
section
variable {P : Program} {w : World} {K : PySem.W.Frag} {mg : Str → Option Value} {base : Heap}
/-! ### is_full -/
abbrev sFul : Stmt := topS 33
theorem scFul : FnScope ["answers", "rows", "places", "known", "row", "many", "place"] ["answers", "rows", "places"] (defScope sFul) := ⟨rfl, rfl, rfl, by decide +kernel, rfl, by decide +kernel, by decide +kernel⟩
theorem D_is_full (F : Fn0 K mg "_law_is_full" sFul []) (B : Bt mg) : T_is_full P w K mg base := by
  refine F.df scFul (fun _ => rfl) (by decide) (fun _ _ _ _ _ _ us hl => match us, hl with | [_, _, _], _ => rfl) fun ⟨ans, rows, ps⟩ hz f cdv A outer s H E hr => ?_
  obtain ⟨h1, h2, h3, h4⟩ := hz
  dsimp only at h1 h2 h3 h4
  show SS _ _ [.v rTx ans, .v (rL rTx) rows, .v (rT rInt) ps, .un, .un, .un, .un] (outR rBool (isFull ans rows ps))
  refine ss_setO 3 scFul.nd (eo_dictT (c := rBool)) ?_
  refine ss_forF (fun (d : List (Row × Bool)) r => dput d (proj ps r) true) [] (fun d => [.v rTx ans, .v (rL rTx) rows, .v (rT rInt) ps, odT rBool d, .un, .un, .un]) (fun i d => d.length ≤ i) (it_L (ev 1)) (gz_name 4 scFul.nd) ⟨.inr rfl, .inr rfl, .inr rfl, .inr rfl, .inr rfl, .inr rfl, .inr rfl, trivial⟩ (Nat.zero_le _) (fun i r d hx hd => ?_) (fun i r d hx hd => ?_) (fun hd => ?_)
  · have := dput_len d (proj ps r) true
    omega
  · have hi := (List.getElem?_eq_some_iff.mp hx).1
    have h5 := h4 r (List.mem_of_getElem? hx)
    refine ss_putK kyT 3 hr ev_bl (EV.cast (x' := proj ps r) (ev_join (ev_str []) (EL.of (EO.fz (eo_lc0 (fun i : Int => [r.getD i.toNat 0]) scFul.nd (it_T (ev 2)) (own := [("place", 6)]) (blkOk_by (by kernel_rfl)) (fun _ _ _ _ _ => gz_name 6 scFul.nd) (by decide) (fun s H C cl fp i hi => ev_ixS (ev 4) (ev 6) (atI_nat' (n := i.toNat) (by have := h5 i hi; omega) (getD_some 0 (by have := h5 i hi; omega))) (by have := h5 i hi; omega)) (by omega)))) (by rw [sum_ones, List.length_map]; simp; omega)) (flatten_one _ _)) rfl (by omega) ?_
    exact ss_nil ⟨.inr rfl, .inr rfl, .inr rfl, .inr rfl, .inl rfl, .inr rfl, .inr rfl, trivial⟩
  · have e : rows.foldl (fun (d : List (Row × Bool)) r => dput d (proj ps r) true) [] = dkd (rows.map (proj ps)) := by
      unfold dkd
      rw [List.foldl_map]
    rw [e] at hd ⊢
    refine ss_set 5 scFul.nd ev_int ?_
    refine ss_forF (fun (m : Int) (_ : Int) => m * ans.length) 1 (fun m => [.v rTx ans, .v (rL rTx) rows, .v (rT rInt) ps, odT rBool (dkd (rows.map (proj ps))), .un, .v rInt m, .un]) (fun _ _ => True) (it_T (ev 2)) (gz_name 6 scFul.nd) ⟨.inr rfl, .inr rfl, .inr rfl, .inr rfl, .inr rfl, .inr rfl, .inr rfl, trivial⟩ trivial (fun _ _ _ _ _ => trivial) (fun i x m hx _ => ?_) (fun _ => ?_)
    · refine ss_set 5 scFul.nd (ev_mul (ev 5) (ev_lenS B.len (ev 0) (by omega)) (.inr ⟨by omega, by omega⟩)) ?_
      exact ss_nil ⟨.inr rfl, .inr rfl, .inr rfl, .inr rfl, .inr rfl, .inr rfl, .inl rfl, trivial⟩
    · exact ss_ret (ev_eqI (ev_lenK (kf := kT) 3 B.len rfl) (ev 5)) rfl
/-! ### full_sets -/
abbrev sFus : Stmt := topS 34
theorem scFus : FnScope ["answers", "rows", "places"] ["answers", "rows"] (defScope sFus) := ⟨rfl, rfl, rfl, by decide +kernel, rfl, by decide +kernel, by decide +kernel⟩
theorem D_full_sets (F : Fn0 K mg "_law_full_sets" sFus []) (B : Bt mg) (G1 : T_lots P w K mg base) (G2 : T_is_full P w K mg base) : T_full_sets P w K mg base := by
  refine F.df scFus (fun _ => rfl) (by decide) (fun _ _ _ _ _ _ us hl => match us, hl with | [_, _], _ => rfl) fun ⟨ans, n, rows⟩ hz f cdv A outer s H E hr => ?_
  replace hz : GR ans n rows := hz
  have ha := isAns_iff hz.isa
  have h6 := hz.n6
  have hl := hz.le
  show SS _ _ [.v rTx ans, .v (rL rTx) rows, .un] (outR (rL (rT rInt)) (fullSets ans n rows))
  have hfst : rows[0]? = some (rows.getD 0 []) := getD_some [] hz.pos
  have hll : (lots n).length ≤ 64 := by
    rw [lots_len]
    exact Nat.pow_le_pow_right (by decide) h6
  refine ss_ret (EO.fz (eo_lc (isFull ans rows) (fun l => l) scFus.nd (it_L (ev_cal G1 hr n (es_cons (EV.cast (ev_lenS B.len (ev_ixL (EL.of (ev 1)) ev_int (atI_nat' (n := 0) rfl hfst)) (by rw [hz.first]; omega)) (by rw [hz.first])) es_nil) (by show n ≤ 10; omega))) (own := [("places", 2)]) (blkOk_by (by kernel_rfl)) (fun _ _ _ _ _ => gz_name 2 scFus.nd) (by decide) (fun s H C cl fp l hl => ebs1 (eb_cal G2 hr (ans, rows, l) (es_cons (ev 0) (es_cons (ev 1) (es_cons (ev 2) es_nil))) ?_)) (fun _ _ _ _ _ _ _ _ => ev 2) (by omega))) ?_
  · obtain ⟨h1, h2⟩ := lots_mem n l hl
    refine ⟨by show ans.length ≤ 100; omega, by show rows.length ≤ 1000; omega, by show l.length ≤ 100; omega, fun r hr i hi => ?_⟩
    have := h2 i hi
    have := hz.len hr
    omega
  · show List.map (fun l => l) _ = _
    rw [List.map_id']
    rfl
/-! ### the law's push -/
abbrev sLpu : Stmt := topS 36
theorem scLpu : FnScope ["answers", "rows", "place", "told", "row", "lower"] ["answers", "rows", "place"] (defScope sLpu) := ⟨rfl, rfl, rfl, by decide +kernel, rfl, by decide +kernel, by decide +kernel⟩
theorem D_lpush (F : Fn0 K mg "_law_push" sLpu []) (B : Bt mg) : T_lpush P w K mg base := by
  refine F.df scLpu (fun _ => rfl) (by decide) (fun _ _ _ _ _ _ us hl => match us, hl with | [_, _, _], _ => rfl) fun ⟨ans, n, rows, p⟩ hz f cdv A outer s H E hr => ?_
  obtain ⟨hz, hp⟩ := hz
  dsimp only at hz hp
  have ha := isAns_iff hz.isa
  have h6 := hz.n6
  have hl := hz.le
  show SS _ _ [.v rTx ans, .v (rL rTx) rows, .v rInt (p : Int), .un, .un, .un] (outR (rL rTx) (lpush ans rows p))
  refine ss_setO 3 scLpu.nd (eo_nil (c := rTx)) ?_
  refine ss_forF (fun acc r => acc ++ [lowr (a0 ans) rows p r]) [] (fun acc => [.v rTx ans, .v (rL rTx) rows, .v rInt (p : Int), .ol rTx acc, .un, .un]) (fun i acc => acc.length ≤ i) (it_L (ev 1)) (gz_name 4 scLpu.nd) ⟨.inr rfl, .inr rfl, .inr rfl, .inr rfl, .inr rfl, .inr rfl, trivial⟩ (Nat.zero_le _) (fun i r acc hx hd => by simp; omega) (fun i r acc hx hd => ?_) (fun hd => ?_)
  · have hi := (List.getElem?_eq_some_iff.mp hx).1
    have hrl := hz.len (List.mem_of_getElem? hx)
    refine ss_set 5 scLpu.nd (x := low (a0 ans) p r) (EV.cast (ev_cat (ev_cat (ev_cutS (ev 4) so_none (so p (ev 2)) (by omega)) (ev_ixS (ev 0) ev_int (atI_nat' (n := 0) rfl (getD_some 0 (by omega))) (by omega)) (by simp; omega)) (ev_cutS (ev 4) (so (p + 1) (ev_add (ev 2) ev_int)) so_none (by omega)) (by simp; omega)) (by simp [low, a0])) ?_
    refine ss_if (eb_inTL (ev 5) (EL.of (ev 1))) (fun h => ?_) (fun h => ?_)
    · refine ss_app 3 rfl (ev 4) (by omega) (ss_nil (ss_nil ?_))
      have e : lowr (a0 ans) rows p r = r := if_pos (of_decide_eq_true h)
      rw [e]
      exact ⟨.inr rfl, .inr rfl, .inr rfl, .inr rfl, .inl rfl, .inl rfl, trivial⟩
    · refine ss_app 3 rfl (ev 5) (by omega) (ss_nil (ss_nil ?_))
      have e : lowr (a0 ans) rows p r = low (a0 ans) p r := if_neg (of_decide_eq_false h)
      rw [e]
      exact ⟨.inr rfl, .inr rfl, .inr rfl, .inr rfl, .inl rfl, .inl rfl, trivial⟩
  · rw [foldl_app (lowr (a0 ans) rows p), List.nil_append] at hd ⊢
    exact ss_ret (EO.fz (eo_sortT B.sorted (el 3) (Nat.lt_of_le_of_lt hd (by omega)))) rfl
/-! ### closed -/
abbrev sClo : Stmt := topS 37
theorem scClo : FnScope ["answers", "rows", "row", "place"] ["answers", "rows"] (defScope sClo) := ⟨rfl, rfl, rfl, by decide +kernel, rfl, by decide +kernel, by decide +kernel⟩
theorem D_closed (F : Fn0 K mg "_law_closed" sClo []) (B : Bt mg) : T_closed P w K mg base := by
  refine F.df scClo (fun _ => rfl) (by decide) (fun _ _ _ _ _ _ us hl => match us, hl with | [_, _], _ => rfl) fun ⟨ans, n, rows⟩ hz f cdv A outer s H E hr => ?_
  obtain ⟨hz, hc⟩ := hz
  dsimp only at hz hc
  have ha := isAns_iff hz.isa
  have h6 := hz.n6
  show SS _ _ [.v rTx ans, .v (rL rTx) rows, .un, .un] (outR rBool true)
  refine ss_forF (fun (s : Unit) (_ : Row) => ()) () (fun _ => [.v rTx ans, .v (rL rTx) rows, .un, .un]) (fun _ _ => True) (it_L (ev 1)) (gz_name 2 scClo.nd) ⟨.inr rfl, .inr rfl, .inr rfl, .inr rfl, trivial⟩ trivial (fun _ _ _ _ _ => trivial) (fun i r _ hx _ => ?_) (fun _ => ss_ret ev_bl rfl)
  have hm := List.mem_of_getElem? hx
  have hrl := hz.len hm
  refine ss_forF (fun (s : Unit) (_ : Int) => ()) () (fun _ => [.v rTx ans, .v (rL rTx) rows, .v rTx r, .un]) (fun _ _ => True) (it_range n B.range (ev_lenS B.len (ev 2) (by omega)) (by rw [hrl]) (by omega)) (gz_name 3 scClo.nd) ⟨.inr rfl, .inr rfl, .inr rfl, .inr rfl, trivial⟩ trivial (fun _ _ _ _ _ => trivial) (fun p x _ hy _ => ?_) (fun _ => ss_nil ⟨.inr rfl, .inr rfl, .inl rfl, .inr rfl, trivial⟩)
  obtain ⟨hp, rfl⟩ := rng_get.mp hy
  rw [show ((0 : Int) + (p : Int)) = (p : Int) by omega]
  refine ss_if (eb_ninTL (i := low (a0 ans) p r) (EV.cast (ev_cat (ev_cat (ev_cutS (ev 2) so_none (so p (ev 3)) (by omega)) (ev_ixS (ev 0) ev_int (atI_nat' (n := 0) rfl (getD_some 0 (by omega))) (by omega)) (by simp; omega)) (ev_cutS (ev 2) (so (p + 1) (ev_add (ev 3) ev_int)) so_none (by omega)) (by simp; omega)) (by simp [low, a0])) (EL.of (ev 1))) (fun h => ?_) (fun h => ss_nil (ss_nil ⟨.inr rfl, .inr rfl, .inr rfl, .inl rfl, trivial⟩))
  exfalso
  have := hc r hm p hp
  simp [this] at h
end
end Q

set_option Elab.async false
set_option linter.all false
set_option maxRecDepth 100000
set_option maxHeartbeats 4000000
namespace Q
open PySem PySem.Spec PyProof.Rows L2 Z
section
variable (P : Program) (w : World) (K : PySem.W.Frag) (mg : Str → Option Value) (base : Heap)
abbrev T_lknots : Prop := Df P w K mg base 1 "_law_knots" (fun a : List Row => [.v (rL rTx) a]) (fun a => 0 < a.length ∧ a.length < 64 ∧ ∀ r ∈ a, r.length ≤ 100) (fun _ => rLK) (fun a => knots a)
end
section
variable {P : Program} {w : World} {K : PySem.W.Frag} {mg : Str → Option Value} {base : Heap}
abbrev sLkn : Stmt := topS 31
theorem scLkn : FnScope ["rows", "knots", "place", "known", "index", "rest", "members"] ["rows"] (defScope sLkn) := ⟨rfl, rfl, rfl, by decide +kernel, rfl, by decide +kernel, by decide +kernel⟩
abbrev cK : Rp (Int × Row × List Int) := rL3 rInt rTx (rL rInt)
theorem D_lknots (F : Fn0 K mg "_law_knots" sLkn []) (B : Bt mg) : T_lknots P w K mg base := by
  refine F.df scLkn (fun _ => rfl) (by decide) (fun _ _ _ _ _ _ us hl => match us, hl with | [_], _ => rfl) fun rows hz f cdv A outer s H E hr => ?_
  replace hz : 0 < rows.length ∧ rows.length < 64 ∧ ∀ r ∈ rows, r.length ≤ 100 := hz
  obtain ⟨h0, h1, h2⟩ := hz
  show SS _ _ [.v (rL rTx) rows, .un, .un, .un, .un, .un, .un] (outR rLK (knots rows))
  have hget : ∀ i, i < rows.length → rows[i]? = some (rows.getD i []) := fun i hi => getD_some [] hi
  have hlen : ∀ i, i < rows.length → (rows.getD i []).length ≤ 100 := fun i hi => h2 _ (List.mem_of_getElem? (hget i hi))
  refine ss_setO 1 scLkn.nd (eo_nil (c := cK)) ?_
  refine ss_forF (fun acc (x : Int) => acc ++ knotsAt rows x.toNat) [] (fun acc => [.v (rL rTx) rows, .ol cK acc, .un, .un, .un, .un, .un]) (fun i acc => acc.length ≤ i * 64) (it_range (rows.getD 0 []).length B.range (ev_lenS B.len (ev_ixL (EL.of (ev 0)) ev_int (atI_nat' (n := 0) rfl (hget 0 h0))) (by have := hlen 0 h0; omega)) rfl (by have := hlen 0 h0; omega)) (gz_name 2 scLkn.nd) ⟨.inr rfl, .inr rfl, .inr rfl, .inr rfl, .inr rfl, .inr rfl, .inr rfl, trivial⟩ (Nat.zero_le _) (fun i x acc hx ha => ?_) (fun i x acc hx ha => ?_) (fun _ => ?_)
  · obtain ⟨hi, rfl⟩ := rng_get.mp hx
    have := knotsAt_len rows ((0 : Int) + (i : Int)).toNat
    rw [List.length_append]
    omega
  · obtain ⟨hi, rfl⟩ := rng_get.mp hx
    rw [show ((0 : Int) + (i : Int)) = (i : Int) by omega]
    have hi100 : i < 100 := Nat.lt_of_lt_of_le hi (hlen 0 h0)
    show SS _ _ [.v (rL rTx) rows, .ol cK acc, .v rInt (i : Int), .un, .un, .un, .un] _
    refine ss_setO 3 scLkn.nd (eo_dict (c := rAd)) ?_
    refine ss_forW 4 3 kT rInt (grpS rows i) [.v (rL rTx) rows, .ol cK acc, .v rInt (i : Int), .un, .un, .un, .un] (fun j d => d.length ≤ j ∧ ∀ r, ((dlook d r).getD []).length ≤ j) (it_range rows.length B.range (ev_lenL B.len (EL.of (ev 0))) rfl (by omega)) rfl ⟨.inr rfl, .inr rfl, .inr rfl, .inr rfl, .inr rfl, .inr rfl, .inr rfl, trivial⟩ (by decide) scLkn.nd ⟨Nat.zero_le _, fun r => Nat.zero_le _⟩ (fun j x d hx hd => ?_) (fun j x d hx hd => ?_) (fun hd => ?_)
    · refine ⟨Nat.le_trans (dput_len _ _ _) (by omega), fun r => ?_⟩
      unfold grpS
      rw [dlook_put]
      split
      · have := hd.2 (del i (rows.getD x.toNat []))
        simp [-List.getD_eq_getElem?_getD]
        omega
      · have := hd.2 r
        omega
    · obtain ⟨hj, rfl⟩ := rng_get.mp hx
      rw [show ((0 : Int) + (j : Int)) = (j : Int) by omega]
      refine ws_set 5 (by decide) rfl scLkn.nd (x := del i (rows.getD j [])) (EV.cast (ev_cat (ev_cutS (ev_ixL (EL.of (ev 0)) (ev 4) (atI_nat (hget j hj))) so_none (so i (ev 2)) (by have := hlen j hj; omega)) (ev_cutS (ev_ixL (EL.of (ev 0)) (ev 4) (atI_nat (hget j hj))) (so (i + 1) (ev_add (ev 2) ev_int)) so_none (by have := hlen j hj; omega)) (by have := hlen j hj; simp [-List.getD_eq_getElem?_getD]; omega)) (by simp [del])) ?_
      have hd2 := hd.2 (del i (rows.getD j []))
      refine ws_alias 6 kyT hr scLkn.nd (by decide) rfl rfl (ev 5) (ev 5) (ev 5) (ev 4) (by omega) (by omega) ?_
      refine ws_nil ⟨?_, ⟨.inr rfl, .inr rfl, .inr rfl, .inr rfl, .inl rfl, .inl rfl, .inr rfl, trivial⟩⟩
      unfold grpS
      rw [Int.toNat_natCast]
    · rw [rng_len] at hd
      have hg : (rng 0 rows.length).foldl (grpS rows i) [] = grp rows i := rfl
      rw [hg] at hd ⊢
      show SS _ _ [.v (rL rTx) rows, .ol cK acc, .v rInt (i : Int), odT (rL rInt) (grp rows i), .un, .un, .un] _
      refine ss_forF (fun ac r => ac ++ [((i : Int), r, (dlook (grp rows i) r).getD [])]) acc (fun ac => [.v (rL rTx) rows, .ol cK ac, .v rInt (i : Int), odT (rL rInt) (grp rows i), .un, .un, .un]) (fun j ac => ac.length ≤ i * 64 + j) (it_L (EO.fz (eo_sortT B.sorted (EL.of (EO.fz (eo_listK (ck := rTx) (kf := kT) (fun x => rfl) 3 B.list rfl))) (by rw [List.length_map]; omega)))) (gz_name 5 scLkn.nd) ⟨.inr rfl, .inr rfl, .inr rfl, .inr rfl, .inr rfl, .inr rfl, .inr rfl, trivial⟩ ha (fun j x ac hx hj => ?_) (fun j x ac hx hj => ?_) (fun hj => ?_)
      · simp
        omega
      · have hm : x ∈ (grp rows i).map (·.1) := srtT_mem.mp (List.mem_of_getElem? hx)
        have hs := dlook_isSome.mpr hm
        have hlt := (List.getElem?_eq_some_iff.mp hx).1
        rw [srtT_len, List.length_map] at hlt
        refine ss_app 1 rfl (ev_lst3 (ev 2) (ev 5) (ev_getK kyT 3 hr (x := (dlook (grp rows i) x).getD []) (ev 5) rfl (by cases e : dlook (grp rows i) x with | none => rw [e] at hs; cases hs | some y => rfl))) (by omega) ?_
        exact ss_nil ⟨.inr rfl, .inr rfl, .inr rfl, .inr rfl, .inr rfl, .inl rfl, .inr rfl, trivial⟩
      · refine ss_nil ?_
        rw [foldl_app (fun r => ((i : Int), r, (dlook (grp rows i) r).getD []))]
        exact ⟨.inr rfl, .inr rfl, .inl rfl, .inl rfl, .inl rfl, .inl rfl, .inr rfl, trivial⟩
  · exact ss_fz 1 rfl (ss_ret (ev 1) rfl)
end
end Q

set_option Elab.async false
set_option linter.all false
set_option maxRecDepth 100000
set_option maxHeartbeats 4000000
namespace Q
open PySem PySem.Spec PyProof.Rows L2 Z
section
variable (P : Program) (w : World) (K : PySem.W.Frag) (mg : Str → Option Value) (base : Heap)
abbrev T_cell : Prop := Df P w K mg base 1 "_law_cell" (fun a : List Int × Nat => [.v rScr a.1, .v rInt (a.2 : Int)]) (fun a => a.2 ≤ 1000) (fun _ => rInt) (fun a => lawCell a.1 a.2)
abbrev T_digits : Prop := Df P w K mg base 1 "_law_digits" (fun a : Int × List Int => [.v rInt a.1, .v (rL rInt) a.2]) (fun a => (∀ z ∈ a.2, PZ z) ∧ a.2.length ≤ 1000) (fun _ => rL rInt) (fun a => digits a.1 a.2)
abbrev rTwo : Rp (List Nat × List Row) := rL2 rTx (rL rTx)
abbrev T_two : Prop := Dfp P w K mg base 2 "_law_two" (fun a : List Int × Nat => [.v rScr a.1, .v rInt (a.2 : Int)]) (fun a => a.2 ≤ 900) (fun _ => rTwo) (fun _ x => ∃ n, Sg x.1 n x.2)
end
theorem Digs.get {ds zs : List Int} (h : Digs ds zs) {i : Nat} (hi : i < zs.length) : ds[i]? = some (ds.getD i 0) ∧ 0 ≤ ds.getD i 0 ∧ ds.getD i 0 < zs.getD i 1 := ⟨getD_some 0 (by rw [h.1]; exact hi), h.2 i hi⟩
theorem pick_at {α : Type} (xs : List α) (d : α) {i : Int} (h : 0 ≤ i) (h2 : i < (xs.length : Int)) : atI xs i = some (xs.getD i.toNat d) := atI_nat' (n := i.toNat) (by omega) (getD_some d (by omega))
section
variable {P : Program} {w : World} {K : PySem.W.Frag} {mg : Str → Option Value} {base : Heap}
abbrev sTwo : Stmt := topS 35
theorem scTwo : FnScope ["script", "at", "shape", "places", "answers", "every", "draws", "taken", "row", "gap", "falls", "k"] ["script", "at"] (defScope sTwo) := ⟨rfl, rfl, rfl, by decide +kernel, rfl, by decide +kernel, by decide +kernel⟩
def ansOf (i : Nat) : List Nat := ([[110, 121], [97, 98]] : List (List Nat)).getD i []
theorem ansOf_ok {i : Nat} (h : i < 2) : isAns (ansOf i) = true ∧ (ansOf i).length = 2 := by
  match i, h with
  | 0, _ => exact ⟨by decide, rfl⟩
  | 1, _ => exact ⟨by decide, rfl⟩
def plcs (x : Int) : List Int := [2, 3, 3, 1, 3, 4, 2, 3, 4, 5 + x]
theorem plcs_ok {x : Int} (h : 0 ≤ x ∧ x < 2) {i : Nat} (hi : i < 10) : 1 ≤ (plcs x).getD i 0 ∧ (plcs x).getD i 0 ≤ 6 := by
  match i, hi with
  | 0, _ | 1, _ | 2, _ | 3, _ | 4, _ | 5, _ | 6, _ | 7, _ | 8, _ => exact ⟨by simp [plcs], by simp [plcs]⟩
  | 9, _ =>
    show 1 ≤ 5 + x ∧ 5 + x ≤ 6
    omega
def cnts : List Int := [2, 4, 6, 9, 12, 30]
theorem cnts_ok {i : Nat} (hi : i < 6) : 1 ≤ cnts.getD i 0 ∧ cnts.getD i 0 ≤ 30 := by
  match i, hi with
  | 0, _ | 1, _ | 2, _ | 3, _ | 4, _ | 5, _ => exact ⟨by simp [cnts], by simp [cnts]⟩
def szs : List Int := [10, 6, 64, 6, 64]
set_option maxHeartbeats 20000000 in
theorem D_two (F : Fn0 K mg "_law_two" sTwo []) (B : Bt mg) (G1 : T_cell P w K mg base) (G2 : T_digits P w K mg base) (G3 : T_all_rows P w K mg base) : T_two P w K mg base := by
  refine F.dfp scTwo (fun _ => rfl) (by decide) (fun _ _ _ _ _ _ us hl => match us, hl with | [_, _], _ => rfl) fun ⟨ns, k⟩ hz f cdv A outer s H E hr => ?_
  replace hz : k ≤ 900 := hz
  show SS _ _ [.v rScr ns, .v rInt (k : Int), .un, .un, .un, .un, .un, .un, .un, .un, .un, .un] (outP rTwo fun x => ∃ n, Sg x.1 n x.2)
  have hsz : ∀ z ∈ szs, PZ z := by
    intro z hz
    simp [szs] at hz
    unfold PZ
    omega
  refine ss_set 2 scTwo.nd (ev_cal G2 hr (lawCell ns k, szs) (es_cons (ev_cal G1 hr (ns, k) (es_cons (ev 0) (es_cons (ev 1) es_nil)) (by show k ≤ 1000; omega)) (es_cons (EO.fz (eo_lst (c := rInt) (xs := szs) (ea_cons ev_int (ea_cons ev_int (ea_cons ev_int (ea_cons ev_int (ea1 ev_int))))) (by decide))) es_nil)) ⟨hsz, by show 5 ≤ 1000; decide⟩) ?_
  generalize hsh : digits (lawCell ns k) szs = sh
  have D : Digs sh szs := hsh ▸ digits_ok hsz
  clear hsh
  obtain ⟨s0, s0a, s0b⟩ := D.get (i := 0) (by decide)
  obtain ⟨s1, s1a, s1b⟩ := D.get (i := 1) (by decide)
  obtain ⟨s2, s2a, s2b⟩ := D.get (i := 2) (by decide)
  obtain ⟨s3, s3a, s3b⟩ := D.get (i := 3) (by decide)
  obtain ⟨s4, s4a, s4b⟩ := D.get (i := 4) (by decide)
  generalize sh.getD 0 0 = d0 at s0 s0a s0b
  generalize sh.getD 1 0 = d1 at s1 s1a s1b
  generalize sh.getD 2 0 = d2 at s2 s2a s2b
  generalize sh.getD 3 0 = d3 at s3 s3a s3b
  generalize sh.getD 4 0 = d4 at s4 s4a s4b
  replace s0b : d0 < 10 := s0b
  replace s1b : d1 < 6 := s1b
  replace s2b : d2 < 64 := s2b
  replace s3b : d3 < 6 := s3b
  replace s4b : d4 < 64 := s4b
  have m2 : 0 ≤ d2 % 2 ∧ d2 % 2 < 2 := by omega
  have m4 : 0 ≤ d4 % 2 ∧ d4 % 2 < 2 := by omega
  obtain ⟨n, hn⟩ : ∃ n : Nat, (plcs (d2 % 2)).getD d0.toNat 0 = (n : Int) := ⟨((plcs (d2 % 2)).getD d0.toNat 0).toNat, by have := plcs_ok m2 (i := d0.toNat) (by omega); omega⟩
  have hn1 : 1 ≤ n ∧ n ≤ 6 := by
    have := plcs_ok m2 (i := d0.toNat) (by omega)
    rw [hn] at this
    omega
  refine ss_set 3 scTwo.nd (x := (n : Int)) (EV.cast (ev_ixL (EL.of (EO.fz (eo_lst (c := rInt) (xs := plcs (d2 % 2)) (ea_cons ev_int (ea_cons ev_int (ea_cons ev_int (ea_cons ev_int (ea_cons ev_int (ea_cons ev_int (ea_cons ev_int (ea_cons ev_int (ea_cons ev_int (ea1 (ev_add ev_int (ev_mod (ev_ixL (EL.of (ev 2)) ev_int (atI_nat' (n := 2) rfl s2)) ev_int (by decide))))))))))))) (by show 10 ≤ 16777216; decide)))) (ev_ixL (EL.of (ev 2)) ev_int (atI_nat' (n := 0) rfl s0)) (pick_at _ 0 s0a s0b)) hn) ?_
  refine ss_set 4 scTwo.nd (x := ansOf (d4 % 2).toNat) (ev_ixL (EL.of (EO.fz (eo_lst (c := rTx) (xs := [[110, 121], [97, 98]]) (ea_cons (ev_str [110, 121]) (ea1 (ev_str [97, 98]))) (by decide)))) (ev_mod (ev_ixL (EL.of (ev 2)) ev_int (atI_nat' (n := 4) rfl s4)) ev_int (by decide)) (pick_at _ [] m4.1 m4.2)) ?_
  obtain ⟨ha, ha2⟩ := ansOf_ok (i := (d4 % 2).toNat) (by omega)
  generalize ansOf (d4 % 2).toNat = ans at ha ha2
  refine ss_set 5 scTwo.nd (ev_cal G3 hr (ans, n) (es_cons (ev 4) (es_cons (ev 3) es_nil)) ⟨by show ans.length ≤ 4; omega, hn1.2⟩) ?_
  have hel : (allRows ans n).length = 2 ^ n := by rw [allRows_len, ha2]
  have he2 : 2 ≤ (allRows ans n).length := by
    rw [hel]
    exact Nat.pow_le_pow_right (n := 2) (by decide) hn1.1
  have he64 : (allRows ans n).length ≤ 64 := by
    rw [hel]
    exact Nat.pow_le_pow_right (n := 2) (by decide) hn1.2
  have hev : ∀ r, r ∈ allRows ans n ↔ isRow ans n r = true := fun r => allRows_row
  have hnd := pw_nd (allRows_pw (isAns_iff ha).2.2 n)
  have hsgE : n < 6 → Sg ans n (allRows ans n) := fun h => sg_every ha ha2 hn1.1 h
  have hsgF : n < 6 → ∀ e : Row, Sg ans n ((allRows ans n).filter fun r => !decide (r = e)) := fun h e => sg_some ha ha2 hn1.1 h (but_one hnd he2 e)
  have hsgD : ∀ tk : List Row, tk.Nodup → (∀ r ∈ tk, r ∈ allRows ans n) → 0 < tk.length → tk.length ≤ 32 → Sg ans n (srtT tk) := fun tk a b c d => sg_drawn ha ha2 hn1.1 hn1.2 a b c d
  generalize allRows ans n = ev0 at *
  have hzs : ∀ z ∈ (List.replicate 30 [(ev0.length : Int)]).flatten, PZ z := fun z hz => by
    obtain ⟨l, hl, hz⟩ := List.mem_flatten.mp hz
    rw [(List.mem_replicate.mp hl).2, List.mem_singleton] at hz
    subst hz
    unfold PZ
    omega
  have hzl : (List.replicate 30 [(ev0.length : Int)]).flatten.length = 30 := by simp
  refine ss_set 6 scTwo.nd (ev_cal G2 hr (lawCell ns (k + 1), (List.replicate 30 [(ev0.length : Int)]).flatten) (es_cons (ev_cal G1 hr (ns, k + 1) (es_cons (ev 0) (es_cons (EV.cast (ev_add (ev 1) ev_int) (by show (k : Int) + 1 = ((k + 1 : Nat) : Int); omega)) es_nil)) (by show k + 1 ≤ 1000; omega)) (es_cons (EO.fz (eo_rep 30 (EO.fz (eo_lst (c := rInt) (xs := [(ev0.length : Int)]) (ea1 (ev_lenL B.len (EL.of (ev 5)))) (by simp))) ev_int rfl (by decide) (by simp))) es_nil)) ⟨hzs, by rw [hzl]; decide⟩) ?_
  have D2 := digits_ok (c := lawCell ns (k + 1)) hzs
  generalize digits (lawCell ns (k + 1)) (List.replicate 30 [(ev0.length : Int)]).flatten = ds at D2
  have hds : ∀ i, i < 30 → ∃ x : Nat, ds[i]? = some (x : Int) ∧ x < ev0.length := fun i hi => by
    obtain ⟨h1, h2, h3⟩ := D2.get (i := i) (by rw [hzl]; exact hi)
    have h4 : (List.replicate 30 [(ev0.length : Int)]).flatten.getD i 1 = ev0.length := by
      have h5 := getD_some (1 : Int) (show i < (List.replicate 30 [(ev0.length : Int)]).flatten.length by rw [hzl]; exact hi)
      obtain ⟨l, hl, hz⟩ := List.mem_flatten.mp (List.mem_of_getElem? h5)
      rw [(List.mem_replicate.mp hl).2, List.mem_singleton] at hz
      exact hz
    refine ⟨(ds.getD i 0).toNat, ?_, by omega⟩
    rw [h1]
    congr 1
    omega
  clear D2
  obtain ⟨x0, hx0, hx0l⟩ := hds 0 (by decide)
  have he0 : ev0[x0]? = some (ev0.getD x0 []) := getD_some [] hx0l
  have hem : ev0.getD x0 [] ∈ ev0 := List.mem_of_getElem? he0
  have hlen : ∀ r ∈ ev0, r.length = n := fun r hr => (isRow_iff.mp ((hev r).mp hr)).1
  have hel0 := hlen _ hem
  generalize hge : ev0.getD x0 [] = e0 at he0 hem hel0
  refine ss_if (EW.eb (ew_and (eb_eqI (ev_ixL (EL.of (ev 2)) ev_int (atI_nat' (n := 1) rfl s1)) ev_int) fun _ => ew_and1 (eb_lt (ev 3) ev_int))) (fun h => ?_) (fun _ => ss_nil ?_)
  · refine ss_ret (ev_lst2 (ev 4) (ev 5)) ⟨n, hsgE ?_⟩
    simp at h
    omega
  refine ss_if (EW.eb (ew_and (eb_eqI (ev_ixL (EL.of (ev 2)) ev_int (atI_nat' (n := 1) rfl s1)) ev_int) fun _ => ew_and1 (eb_lt (ev 3) ev_int))) (fun h => ?_) (fun _ => ss_nil ?_)
  · refine ss_ret (ev_lst2 (ev 4) (EO.fz (eo_lc (fun r : Row => !decide (r = e0)) (fun r => r) scTwo.nd (it_L (ev 5)) (own := [("row", 8)]) (blkOk_by (by kernel_rfl)) (fun _ _ _ _ _ => gz_name 8 scTwo.nd) (by decide) (fun s H C cl fp r hr => ebs1 (eb_neT (ev 8) (ev_ixL (EL.of (ev 5)) (ev_ixL (EL.of (ev 6)) ev_int (atI_nat' (n := 0) rfl hx0)) (atI_nat he0)))) (fun _ _ _ _ _ _ _ _ => ev 8) (by omega)))) ⟨n, ?_⟩
    rw [List.map_id']
    refine hsgF ?_ e0
    simp at h
    omega
  refine ss_setO 7 scTwo.nd (eo_nil (c := rTx)) ?_
  refine ss_for (fun i Γ' => ∃ tk : List Row, Wk Γ' [.v rScr ns, .v rInt (k : Int), .v (rL rInt) sh, .v rInt (n : Int), .v rTx ans, .v (rL rTx) ev0, .v (rL rInt) ds, .ol rTx tk, .un, .un, .un, .un] ∧ tk.Nodup ∧ tk.length ≤ i ∧ ∀ r ∈ tk, r ∈ ev0.take i) (it_L (ev 5)) (gz_name 8 scTwo.nd)
    ⟨[], ⟨.inr rfl, .inr rfl, .inr rfl, .inr rfl, .inr rfl, .inr rfl, .inr rfl, .inr rfl, .inr rfl, .inr rfl, .inr rfl, .inr rfl, trivial⟩, List.nodup_nil, Nat.le_refl _, fun r hr => by cases hr⟩ (fun i r Γ' hx hI => ?_) (fun Γ' hI => ?_)
  · obtain ⟨tk, wk, nd, hl, hm⟩ := hI
    have hil := (List.getElem?_eq_some_iff.mp hx).1
    have hrm := List.mem_of_getElem? hx
    have hrl := hlen r hrm
    refine ss_weak (Γ' := [.v rScr ns, .v rInt (k : Int), .v (rL rInt) sh, .v rInt (n : Int), .v rTx ans, .v (rL rTx) ev0, .v (rL rInt) ds, .ol rTx tk, .v rTx r, .un, .un, .un]) ?_ (Wk.set wk)
    refine ss_set 9 scTwo.nd (ev_lenL B.len (EL.of (EO.fz (eo_lc (fun m : Int => !decide ([r.getD m.toNat 0] = [e0.getD m.toNat 0])) (fun m => m) scTwo.nd (it_range n B.range (ev 3) rfl (by omega)) (own := [("k", 11)]) (blkOk_by (by kernel_rfl)) (fun _ _ _ _ _ => gz_name 11 scTwo.nd) (by decide) (fun s H C cl fp m hm => ebs1 (eb_neT (ev_ixS (ev 8) (ev 11) (pick_at _ 0 (rng_mem.mp hm).1 (by have := rng_mem.mp hm; omega)) (by omega)) (ev_ixS (ev_ixL (EL.of (ev 5)) (ev_ixL (EL.of (ev 6)) ev_int (atI_nat' (n := 0) rfl hx0)) (atI_nat he0)) (ev 11) (pick_at _ 0 (rng_mem.mp hm).1 (by have := rng_mem.mp hm; omega)) (by omega)))) (fun _ _ _ _ _ _ _ _ => ev 11) (by rw [rng_len]; omega))))) ?_
    refine ss_set 10 scTwo.nd (ev_eqI (ev_lenL B.len (EL.of (EO.fz (eo_lc (fun m : Int => decide ([r.getD m.toNat 0] < [r.getD (m + 1).toNat 0])) (fun m => m) scTwo.nd (it_range (n - 1) B.range (ev_sub (ev 3) ev_int) (by omega) (by omega)) (own := [("k", 11)]) (blkOk_by (by kernel_rfl)) (fun _ _ _ _ _ => gz_name 11 scTwo.nd) (by decide) (fun s H C cl fp m hm => ebs1 (eb_ltT (ev_ixS (ev 8) (ev 11) (pick_at _ 0 (rng_mem.mp hm).1 (by have := rng_mem.mp hm; omega)) (by omega)) (ev_ixS (ev 8) (ev_add (ev 11) ev_int) (pick_at _ 0 (by have := rng_mem.mp hm; omega) (by have := rng_mem.mp hm; omega)) (by omega)))) (fun _ _ _ _ _ _ _ _ => ev 11) (by rw [rng_len]; omega))))) ev_int) ?_
    refine ss_if (EW.eb (ew_or (EW.eb (ew_and (eb_eqI (ev_ixL (EL.of (ev 2)) ev_int (atI_nat' (n := 1) rfl s1)) ev_int) fun _ => ew_and1 (EB.of (ev 10)))) fun _ => ew_or1 (EW.eb (ew_and (eb_eqI (ev_ixL (EL.of (ev 2)) ev_int (atI_nat' (n := 1) rfl s1)) ev_int) fun _ => ew_and1 (eb_le (ev 9) (ev_add ev_int (ev_mod (ev_ixL (EL.of (ev 2)) ev_int (atI_nat' (n := 2) rfl s2)) ev_int (by decide)))))))) (fun _ => ?_) (fun _ => ss_nil (ss_nil ?_))
    · refine ss_app 7 rfl (ev 8) (by omega) (ss_nil (ss_nil ?_))
      refine ⟨tk ++ [r], ⟨.inr rfl, .inr rfl, .inr rfl, .inr rfl, .inr rfl, .inr rfl, .inr rfl, .inr rfl, .inl rfl, .inl rfl, .inl rfl, .inr rfl, trivial⟩, ?_, by simp; omega, fun q hq => ?_⟩
      · rw [List.nodup_append]
        refine ⟨nd, by simp, fun a ha b hb => ?_⟩
        rw [List.mem_singleton] at hb
        subst hb
        rintro rfl
        have := hm a ha
        obtain ⟨j, hj, e⟩ := List.mem_take_iff_getElem.mp this
        have e2 := (List.getElem?_eq_some_iff.mp hx).2
        have := List.pairwise_iff_getElem.mp hnd j i (by omega) hil (by omega)
        exact this (e.trans e2.symm)
      · rw [List.take_add_one, hx]
        rcases List.mem_append.mp hq with hq | hq
        · exact List.mem_append.mpr (.inl (hm q hq))
        · exact List.mem_append.mpr (.inr hq)
    · refine ⟨tk, ⟨.inr rfl, .inr rfl, .inr rfl, .inr rfl, .inr rfl, .inr rfl, .inr rfl, .inr rfl, .inl rfl, .inl rfl, .inl rfl, .inr rfl, trivial⟩, nd, by omega, fun q hq => ?_⟩
      rw [List.take_add_one]
      exact List.mem_append.mpr (.inl (hm q hq))
  · obtain ⟨tk, wk, nd, hl, hm⟩ := hI
    rw [List.take_length] at hm
    refine ss_weak ?_ wk
    refine ss_setO 7 scTwo.nd (eo_cutL (el 7) so_none (so 20 ev_int)) ?_
    rw [cut_to]
    have nd2 : (tk.take 20).Nodup := nd.sublist (List.take_sublist ..)
    have hm2 : ∀ r ∈ tk.take 20, r ∈ ev0 := fun r hr => hm r (List.mem_of_mem_take hr)
    have hl2 : (tk.take 20).length ≤ 20 := by rw [List.length_take]; omega
    generalize tk.take 20 = t0 at nd2 hm2 hl2
    obtain ⟨cn, hcn⟩ : ∃ cn : Nat, cnts.getD d3.toNat 0 = (cn : Int) := ⟨(cnts.getD d3.toNat 0).toNat, by have := cnts_ok (i := d3.toNat) (by omega); omega⟩
    have hcn1 : 1 ≤ cn ∧ cn ≤ 30 := by
      have := cnts_ok (i := d3.toNat) (by omega)
      rw [hcn] at this
      omega
    refine ss_for (fun i Γ' => ∃ tk : List Row, Wk Γ' [.v rScr ns, .v rInt (k : Int), .v (rL rInt) sh, .v rInt (n : Int), .v rTx ans, .v (rL rTx) ev0, .v (rL rInt) ds, .ol rTx tk, .un, .un, .un, .un] ∧ tk.Nodup ∧ (∀ r ∈ tk, r ∈ ev0) ∧ tk.length ≤ 32 ∧ (i = 0 → tk.length ≤ 20) ∧ (0 < i → 0 < tk.length)) (it_range cn B.range (EV.cast (ev_ixL (EL.of (EO.fz (eo_lst (c := rInt) (xs := cnts) (ea_cons ev_int (ea_cons ev_int (ea_cons ev_int (ea_cons ev_int (ea_cons ev_int (ea1 ev_int)))))) (by decide)))) (ev_ixL (EL.of (ev 2)) ev_int (atI_nat' (n := 3) rfl s3)) (pick_at _ 0 s3a s3b)) hcn) rfl (by omega)) (gz_name 11 scTwo.nd)
      ⟨t0, ⟨.inr rfl, .inr rfl, .inr rfl, .inr rfl, .inr rfl, .inr rfl, .inr rfl, .inr rfl, .inr rfl, .inr rfl, .inr rfl, .inr rfl, trivial⟩, nd2, hm2, by omega, fun _ => hl2, fun h => absurd h (by omega)⟩ (fun i m Γ' hx hI => ?_) (fun Γ' hI => ?_)
    · obtain ⟨tk, wk, nd, hm, hl, hl0, hl1⟩ := hI
      obtain ⟨hi, rfl⟩ := rng_get.mp hx
      rw [show ((0 : Int) + (i : Int)) = (i : Int) by omega]
      obtain ⟨xi, hxi, hxil⟩ := hds i (by omega)
      have hei : ev0[xi]? = some (ev0.getD xi []) := getD_some [] hxil
      have heim := List.mem_of_getElem? hei
      refine ss_weak (Γ' := [.v rScr ns, .v rInt (k : Int), .v (rL rInt) sh, .v rInt (n : Int), .v rTx ans, .v (rL rTx) ev0, .v (rL rInt) ds, .ol rTx tk, .un, .un, .un, .v rInt (i : Int)]) ?_ (Wk.set wk)
      refine ss_if (EW.eb (ew_and (eb_ninTL (ev_ixL (EL.of (ev 5)) (ev_ixL (EL.of (ev 6)) (ev 11) (atI_nat hxi)) (atI_nat hei)) (el 7)) fun _ => ew_and1 (eb_lt (ev_lenL B.len (el 7)) ev_int))) (fun h => ?_) (fun h => ss_nil (ss_nil ?_))
      · simp only [Bool.and_eq_true, Bool.not_eq_true', decide_eq_false_iff_not, decide_eq_true_eq] at h
        refine ss_app 7 rfl (ev_ixL (EL.of (ev 5)) (ev_ixL (EL.of (ev 6)) (ev 11) (atI_nat hxi)) (atI_nat hei)) (by omega) (ss_nil (ss_nil ?_))
        refine ⟨tk ++ [ev0.getD xi []], ⟨.inr rfl, .inr rfl, .inr rfl, .inr rfl, .inr rfl, .inr rfl, .inr rfl, .inr rfl, .inr rfl, .inr rfl, .inr rfl, .inl rfl, trivial⟩, ?_, fun q hq => ?_, by simp; omega, fun h => absurd h (by omega), fun _ => by simp⟩
        · rw [List.nodup_append]
          refine ⟨nd, by simp, fun a ha b hb => ?_⟩
          rw [List.mem_singleton] at hb
          subst hb
          rintro rfl
          exact h.1 ha
        · rcases List.mem_append.mp hq with hq | hq
          · exact hm q hq
          · rw [List.mem_singleton] at hq
            subst hq
            exact heim
      · refine ⟨tk, ⟨.inr rfl, .inr rfl, .inr rfl, .inr rfl, .inr rfl, .inr rfl, .inr rfl, .inr rfl, .inr rfl, .inr rfl, .inr rfl, .inl rfl, trivial⟩, nd, hm, hl, fun h => absurd h (by omega), fun _ => ?_⟩
        by_cases c : i = 0
        · by_cases c2 : ev0.getD xi [] ∈ tk
          · exact List.length_pos_of_mem c2
          · have := hl0 c
            simp [-List.getD_eq_getElem?_getD, c2] at h
            omega
        · exact hl1 (by omega)
    · obtain ⟨tk, wk, nd, hm, hl, hl0, hl1⟩ := hI
      rw [rng_len] at hl1
      refine ss_weak ?_ wk
      refine ss_ret (ev_lst2 (ev 4) (EO.fz (eo_sortT B.sorted (el 7) (by omega)))) ⟨n, hsgD tk nd hm (hl1 (by omega)) hl⟩
end
end Q

set_option Elab.async false
set_option linter.all false
set_option maxRecDepth 100000
set_option maxHeartbeats 4000000
namespace Q
open PySem PySem.Spec PyProof.Rows L2 Z
section
variable {P : Program} {w : World} {K : PySem.W.Frag} {mg : Str → Option Value} {base : Heap}
abbrev sLaw : Stmt := topS 38
theorem scLaw : FnScope ["script", "built", "answers", "rows", "web", "full", "count", "now", "turn", "before", "place", "after", "told", "fuller", "surplus", "places"] ["script"] (defScope sLaw) := ⟨rfl, rfl, rfl, by decide +kernel, rfl, by decide +kernel, by decide +kernel⟩
theorem knots_in {ans : List Nat} {n : Nat} {rows : List Row} (s : Sg ans n rows) {cnt : Nat} (h : rows.length = cnt) : ∀ k ∈ knots rows, ∀ i ∈ k.2.2, 0 ≤ i ∧ i < cnt := fun k hk i hi => by
  have := (knots_ms hk).2 i hi
  omega
theorem knots_small {ans : List Nat} {n : Nat} {rows : List Row} (s : Sg ans n rows) : (knots rows).length ≤ 1000 ∧ ∀ k ∈ knots rows, k.2.2.length ≤ 1000 := by
  have h1 := knots_len rows
  rw [s.g.first] at h1
  have h2 : n * rows.length ≤ 6 * 32 := Nat.mul_le_mul s.g.n6 s.g.le
  refine ⟨by omega, fun k hk => ?_⟩
  have := (knots_ms hk).1
  have := s.g.le
  omega
theorem kpre {ans : List Nat} {n : Nat} {rows : List Row} (s : Sg ans n rows) : 0 < rows.length ∧ rows.length < 64 ∧ ∀ r ∈ rows, r.length ≤ 100 := by
  have := s.g.le
  have := s.g.n6
  refine ⟨s.g.pos, by omega, fun r hr => ?_⟩
  have := s.g.len hr
  omega
set_option maxHeartbeats 20000000 in
theorem D_law (B : Bt mg) (C : Cn K mg) (G1 : T_two P w K mg base) (G2 : T_Web P w K mg base) (G3 : T_full_sets P w K mg base) (G4 : T_lpush P w K mg base) (G5 : T_pushed_at P w K mg base) (G6 : T_lknots P w K mg base) (G7 : T_lsurp P w K mg base) (G8 : T_pushed P w K mg base) (G9 : T_closed P w K mg base) (G10 : T_surplus_of P w K mg base) (G11 : T_eq P w K mg base)
    {f : Addr} {fd : FuncData} (F : FunD K "law" "law" (defArgs sLaw) (defBody sLaw) (defScope sLaw) [] [] f fd) :
    FnOk P w K mg base CX0 9 f fd ["script"] (spZ K (fun ns : List Int => [.v rScr ns]) (fun _ => True) (fun _ => rBool) (fun _ => true)) := by
  refine F.z scLaw (fun _ => rfl) (by decide) fun ns _ cdv A outer s H E hr => ?_
  show SS _ _ [.v rScr ns, .un, .un, .un, .un, .un, .un, .un, .un, .un, .un, .un, .un, .un, .un, .un] (outR rBool true)
  refine ss_setX 1 scLaw.nd (ex_call G1 (hr.mono (by decide)) (ns, 0) (es_cons (ev 0) (es_cons ev_int es_nil)) (by show 0 ≤ 900; omega)) fun x hx => ?_
  obtain ⟨ans, rows⟩ := x
  obtain ⟨n, sg⟩ := hx
  replace sg : Sg ans n rows := sg
  have hn6 := sg.g.n6
  have hn1 := sg.g.n1
  have hle := sg.g.le
  have hal : ans.length ≤ 4 := (isAns_iff sg.g.isa).1.2
  refine ss_set 2 scLaw.nd (ev_fstL2 (x := ans) (y := rows) (c := rTx) (d := rL rTx) (ev 1)) ?_
  refine ss_set 3 scLaw.nd (ev_sndL2 (x := ans) (y := rows) (c := rTx) (d := rL rTx) (ev 1)) ?_
  refine ss_set 4 scLaw.nd (x := (ans, rows)) (ev_mak G2 (hr.mono (by decide)) (ans, n, rows) (es_cons (ev 2) (es_cons (ev_tupL B.tuple (EL.of (ev 3))) es_nil)) sg.g (by show (ans, diff rows) = _; rw [srt_self sg])) ?_
  refine ss_set 5 scLaw.nd (x := fullSets ans n rows) (ev_cal G3 (hr.mono (by decide)) (ans, n, rows) (es_cons (ev 2) (es_cons (ev 3) es_nil)) sg.g) ?_
  refine ss_set 6 scLaw.nd (ev_lenL B.len (EL.of (ev 3))) ?_
  refine ss_set 7 scLaw.nd (ev 3) ?_
  have hfst : rows[0]? = some (rows.getD 0 []) := getD_some [] sg.g.pos
  refine ss_for (fun m Γ' => ∃ cur, ((m = 0 ∧ cur = rows) ∨ (m = 1 ∧ cur = once ans n rows)) ∧ Wk Γ' [.v rScr ns, .v rTwo (ans, rows), .v rTx ans, .v (rL rTx) rows, .v (rWeb K) (ans, rows), .v (rL (rT rInt)) (fullSets ans n cur), .v rInt (rows.length : Int), .v (rL rTx) cur, .un, .un, .un, .un, .un, .un, .un, .un])
    (it_range 40 B.range ev_int rfl (by omega)) (gz_name 8 scLaw.nd) ⟨rows, .inl ⟨rfl, rfl⟩, ⟨.inr rfl, .inr rfl, .inr rfl, .inr rfl, .inr rfl, .inr rfl, .inr rfl, .inr rfl, .inr rfl, .inr rfl, .inr rfl, .inr rfl, .inr rfl, .inr rfl, .inr rfl, .inr rfl, trivial⟩⟩ (fun m y Γ' hy hI => ?_) (fun Γ' hI => ?_)
  · obtain ⟨cur, hcur, wk⟩ := hI
    have sc : Sg ans n cur ∧ cur.length = rows.length := by
      rcases hcur with ⟨_, e⟩ | ⟨_, e⟩
      · rw [e]
        exact ⟨sg, rfl⟩
      · rw [e]
        exact ⟨sg.once, sg.once_len⟩
    refine ss_weak (Γ' := [.v rScr ns, .v rTwo (ans, rows), .v rTx ans, .v (rL rTx) rows, .v (rWeb K) (ans, rows), .v (rL (rT rInt)) (fullSets ans n cur), .v rInt (rows.length : Int), .v (rL rTx) cur, .v rInt y, .un, .un, .un, .un, .un, .un, .un]) ?_ (Wk.set wk)
    refine ss_setO 9 scLaw.nd (eo_listL B.list (EL.of (ev 7))) ?_
    refine ss_fz 9 rfl ?_
    refine ss_forF (fun rs (p : Int) => pushAt ans rs p.toNat) cur (fun rs => [.v rScr ns, .v rTwo (ans, rows), .v rTx ans, .v (rL rTx) rows, .v (rWeb K) (ans, rows), .v (rL (rT rInt)) (fullSets ans n rs), .v rInt (rows.length : Int), .v (rL rTx) rs, .v rInt y, .v (rL rTx) cur, .un, .un, .un, .un, .un, .un]) (fun _ rs => Sg ans n rs ∧ rs.length = rows.length)
      (it_range n B.range (ev_lenS B.len (ev_ixL (EL.of (ev 3)) ev_int (atI_nat' (n := 0) rfl hfst)) (by rw [sg.g.first]; omega)) (by rw [sg.g.first]) (by omega)) (gz_name 10 scLaw.nd) ⟨.inr rfl, .inr rfl, .inr rfl, .inr rfl, .inr rfl, .inr rfl, .inr rfl, .inr rfl, .inr rfl, .inr rfl, .inr rfl, .inr rfl, .inr rfl, .inr rfl, .inr rfl, .inr rfl, trivial⟩ sc (fun i x rs hx hs => ?_) (fun i x rs hx hs => ?_) (fun hs => ?_)
    · obtain ⟨hi, rfl⟩ := rng_get.mp hx
      exact ⟨hs.1.push (by omega), by rw [hs.1.push_len (by omega)]; exact hs.2⟩
    · obtain ⟨hi, rfl⟩ := rng_get.mp hx
      obtain ⟨s1, l1⟩ := hs
      rw [show ((0 : Int) + (i : Int)) = (i : Int) by omega, Int.toNat_natCast]
      have s2 := s1.push hi
      have l2 : (pushAt ans rs i).length = rows.length := by rw [s1.push_len hi]; exact l1
      refine ss_set 11 scLaw.nd (x := pushAt ans rs i) (ev_cal G4 (hr.mono (by decide)) (ans, n, rs, i) (es_cons (ev 2) (es_cons (ev 7) (es_cons (ev 10) es_nil))) ⟨s1.g, by show i ≤ 100; omega⟩ (s1.push_eq hi)) ?_
      refine ss_set 12 scLaw.nd (x := (ans, pushAt ans rs i)) (ev_cal G5 (hr.mono (by decide)) ((ans, rs), i, n) (es_cons (ev_mak (y := (ans, rs)) G2 (hr.mono (by decide)) (ans, n, rs) (es_cons (ev 2) (es_cons (ev_tupL B.tuple (EL.of (ev 7))) es_nil)) s1.g (by show (ans, diff rs) = _; rw [srt_self s1])) (es_cons (ev 10) es_nil)) ⟨s1.g, hi⟩) ?_
      refine ss_if (EW.eb (ew_or (eb_neD (dT dTx) hr (ev_fld (ev 12) C.cls C.na3 rfl) (ev_tupL B.tuple (EL.of (ev 11))) s2.g.good s2.g.good) fun _ => ew_or (eb_neT (ev_fld (ev 12) C.cls C.na1 rfl) (ev 2)) fun _ => ew_or1 (eb_neI (ev_lenL B.len (EL.of (ev 11))) (ev 6)))) (fun h => ?_) (fun _ => ss_nil ?_)
      · exfalso
        simp at h
        omega
      refine ss_if (eb_lt (ev_cal G7 (hr.mono (by decide)) (knots (pushAt ans rs i), rng 0 rows.length) (es_cons (ev_cal G6 (hr.mono (by decide)) (pushAt ans rs i) (es_cons (ev 11) es_nil) (kpre s2)) (es_cons (ev_tupRg rows.length rfl B.tuple B.range (ev 6) rfl (by omega)) (es_cons ev_int es_nil))) ⟨(knots_small s2).1, by rw [rng_len]; omega, (knots_small s2).2⟩)
        (ev_cal G7 (hr.mono (by decide)) (knots rs, rng 0 rows.length) (es_cons (ev_cal G6 (hr.mono (by decide)) rs (es_cons (ev 7) es_nil) (kpre s1)) (es_cons (ev_tupRg rows.length rfl B.tuple B.range (ev 6) rfl (by omega)) (es_cons ev_int es_nil))) ⟨(knots_small s1).1, by rw [rng_len]; omega, (knots_small s1).2⟩)) (fun h => ?_) (fun _ => ss_nil ?_)
      · exfalso
        have := s1.sK_le hi
        have h2 : lsurp (knots (pushAt ans rs i)) (rng 0 rows.length) 1 < lsurp (knots rs) (rng 0 rows.length) 1 := of_decide_eq_true h
        rw [lsurp_eq (knots_in s2 l2), lsurp_eq (knots_in s1 l1)] at h2
        omega
      refine ss_setLc 13 (fun l : List Int => !decide (l ∈ fullSets ans n rs)) (fun l => l) scLaw.nd (it_L (ev_cal G3 (hr.mono (by decide)) (ans, n, pushAt ans rs i) (es_cons (ev 2) (es_cons (ev 11) es_nil)) s2.g)) (own := [("places", 15)]) (blkOk_by (by kernel_rfl)) (fun _ _ _ _ _ => gz_name 15 scLaw.nd) (by decide) (fun s H C cl fp l hl => ebs1 (EB.cast (eb_ninDL (dT dInt) hr (ev 15) (ev 5) (fun _ _ => trivial) (fun _ _ _ _ => trivial)) (by first | rfl | congr))) (fun _ _ _ _ _ _ _ _ => ev 15) ?_ ?_
      · have h1 : (fullSets ans n (pushAt ans rs i)).length ≤ (lots n).length := List.length_filter_le _ _
        have h2 : (lots n).length ≤ 64 := by
          rw [lots_len]
          exact Nat.pow_le_pow_right (by decide) hn6
        exact Nat.le_trans h1 (Nat.le_trans h2 (by decide))
      have e0 : ((fullSets ans n (pushAt ans rs i)).filter fun l : List Int => !decide (l ∈ fullSets ans n rs)).map (fun l => l) = [] := by
        rw [List.map_id']
        refine List.filter_eq_nil_iff.mpr fun l hl => ?_
        have := s1.full hi hl
        simp [this]
      rw [show List.map (fun l => l) (List.filter (fun l : List Int => !decide (l ∈ fullSets ans n rs)) ((fun a : List Nat × Nat × List Row => fullSets a.1 a.2.1 a.2.2) (ans, n, pushAt ans rs i))) = [] from e0]
      refine ss_if (eb_gt (ev_lenL B.len (el (c := rT rInt) (xs := []) 13)) ev_int) (fun h => absurd h (by decide)) (fun _ => ss_nil ?_)
      refine ss_set 5 scLaw.nd (x := fullSets ans n (pushAt ans rs i)) (ev_cal G3 (hr.mono (by decide)) (ans, n, pushAt ans rs i) (es_cons (ev 2) (es_cons (ev 11) es_nil)) s2.g) ?_
      refine ss_set 7 scLaw.nd (ev 11) ?_
      exact ss_nil ⟨.inr rfl, .inr rfl, .inr rfl, .inr rfl, .inr rfl, .inr rfl, .inr rfl, .inr rfl, .inr rfl, .inr rfl, .inl rfl, .inl rfl, .inl rfl, .inl rfl, .inr rfl, .inr rfl, trivial⟩
    · have ho : (rng 0 n).foldl (fun rs (p : Int) => pushAt ans rs p.toNat) cur = once ans n cur := rfl
      rw [ho] at hs ⊢
      obtain ⟨s1, l1⟩ := hs
      have hco : once ans n cur = once ans n rows := by
        rcases hcur with ⟨_, e⟩ | ⟨_, e⟩
        · rw [e]
        · rw [e, sg.once_once]
      refine ss_if (eb_eqD (dL dTx) hr (ev 7) (ev 9) s1.g.good sc.1.g.good) (fun _ => ?_) (fun h => ss_nil (ss_nil ?_))
      · -- the rest of the law
        refine ss_brk ?_
        rw [hco]
        have sm := sg.once
        have lm := sg.once_len
        refine ss_weak (Γ' := [.v rScr ns, .un, .v rTx ans, .v (rL rTx) rows, .v (rWeb K) (ans, rows), .un, .v rInt (rows.length : Int), .v (rL rTx) (once ans n rows), .un, .un, .un, .un, .un, .un, .un, .un]) ?_ ⟨.inr rfl, .inl rfl, .inr rfl, .inr rfl, .inr rfl, .inl rfl, .inr rfl, .inr rfl, .inl rfl, .inl rfl, .inr rfl, .inr rfl, .inr rfl, .inr rfl, .inr rfl, .inr rfl, trivial⟩
        have hoo := sg.once_once
        have hcl := sg.closed
        have hsk := sg.once_sK
        generalize hM : once ans n rows = M at *
        have pp : ∀ {Γ : List Sl} {X : Cx}, True := trivial
        refine ss_if (EW.eb (ew_or (eb_neD (dT dTx) hr (ev_fld (ev_cal (y := (ans, M)) G8 (hr.mono (by decide)) ((ans, rows), n) (es_cons (ev 4) es_nil) ⟨sg.g, by show once ans n (once ans n rows) = once ans n rows; rw [hM, hoo]⟩ (by show (ans, once ans n rows) = _; rw [hM])) C.cls C.na3 rfl) (ev_tupL B.tuple (EL.of (ev 7))) sm.g.good sm.g.good) fun _ => ew_or (eb_neT (ev_fld (ev_cal (y := (ans, M)) G8 (hr.mono (by decide)) ((ans, rows), n) (es_cons (ev 4) es_nil) ⟨sg.g, by show once ans n (once ans n rows) = once ans n rows; rw [hM, hoo]⟩ (by show (ans, once ans n rows) = _; rw [hM])) C.cls C.na1 rfl) (ev 2)) fun _ => ew_or1 (eb_not (eb_cal G9 (hr.mono (by decide)) (ans, n, M) (es_cons (ev 2) (es_cons (ev 7) es_nil)) ⟨sm.g, hcl⟩)))) (fun h => ?_) (fun _ => ss_nil ?_)
        · exfalso
          simp at h
        have hfm : (M.getD 0 []).length ≤ 1000 := by rw [sm.g.first]; omega
        have hfr : (rows.getD 0 []).length ≤ 1000 := by rw [sg.g.first]; omega
        refine ss_set 14 scLaw.nd (x := sK (knots M)) (ev_cal G10 (hr.mono (by decide)) ((ans, M), rng 0 rows.length) (es_cons (ev_cal (y := (ans, M)) G8 (hr.mono (by decide)) ((ans, rows), n) (es_cons (ev 4) es_nil) ⟨sg.g, by show once ans n (once ans n rows) = once ans n rows; rw [hM, hoo]⟩ (by show (ans, once ans n rows) = _; rw [hM])) (es_cons (ev_tupRg rows.length rfl B.tuple B.range (ev 6) rfl (by omega)) es_nil)) ⟨by show M.length ≤ 1000; omega, hfm, fun i hi => by have := rng_mem.mp hi; show 0 ≤ i ∧ i < (M.length : Int); omega⟩ (by show surp (knots M) (marks M.length (rng 0 rows.length)) 1 = _; rw [← lm, surp_eq (knots_in sm rfl)])) ?_
        refine ss_if (EW.eb (ew_or (eb_neI (ev 14) (ev_cal (y := sK (knots M)) G7 (hr.mono (by decide)) (knots M, rng 0 rows.length) (es_cons (ev_cal G6 (hr.mono (by decide)) M (es_cons (ev 7) es_nil) (kpre sm)) (es_cons (ev_tupRg rows.length rfl B.tuple B.range (ev 6) rfl (by omega)) (es_cons ev_int es_nil))) ⟨(knots_small sm).1, by rw [rng_len]; omega, (knots_small sm).2⟩ (lsurp_eq (knots_in sm lm)))) fun _ => ew_or1 (eb_lt (ev 14) (ev_cal (y := sK (knots rows)) G10 (hr.mono (by decide)) ((ans, rows), rng 0 rows.length) (es_cons (ev 4) (es_cons (ev_tupRg rows.length rfl B.tuple B.range (ev 6) rfl (by omega)) es_nil)) ⟨by show rows.length ≤ 1000; omega, hfr, fun i hi => rng_mem.mp hi⟩ (surp_eq (knots_in sg rfl)))))) (fun h => ?_) (fun _ => ss_nil ?_)
        · exfalso
          simp at h
          omega
        obtain ⟨f', fd', ps', G, hb, hne⟩ := G11.ex
        refine ss_ret (ev_and (ev_eqO (m := fun a : WV × WV => decide (a.1 = a.2)) G hb hne.toEqq (hr.mono (by decide)) (ev_cal (y := (ans, M)) G8 (hr.mono (by decide)) ((ans, M), n) (es_cons (ev_cal (y := (ans, M)) G8 (hr.mono (by decide)) ((ans, rows), n) (es_cons (ev 4) es_nil) ⟨sg.g, by show once ans n (once ans n rows) = once ans n rows; rw [hM, hoo]⟩ (by show (ans, once ans n rows) = _; rw [hM])) es_nil) ⟨sm.g, by show once ans n (once ans n M) = once ans n M; rw [hoo, hoo]⟩ (by show (ans, once ans n M) = _; rw [hoo])) (ev_cal (y := (ans, M)) G8 (hr.mono (by decide)) ((ans, rows), n) (es_cons (ev 4) es_nil) ⟨sg.g, by show once ans n (once ans n rows) = once ans n rows; rw [hM, hoo]⟩ (by show (ans, once ans n rows) = _; rw [hM])) ((ans, M), (ans, M)) rfl ⟨sm.g.good, sm.g.good⟩) fun _ => ev_one (ev_eqD (dT dTx) hr (ev_fld (ev 4) C.cls C.na3 rfl) (ev_tupL B.tuple (EL.of (ev 3))) sg.g.good sg.g.good)) ?_
        show (_ && _) = true
        simp
      · rcases hcur with ⟨e1, e2⟩ | ⟨e1, e2⟩
        · subst e1
          subst e2
          exact ⟨_, .inr ⟨rfl, rfl⟩, ⟨.inr rfl, .inr rfl, .inr rfl, .inr rfl, .inr rfl, .inr rfl, .inr rfl, .inr rfl, .inl rfl, .inl rfl, .inr rfl, .inr rfl, .inr rfl, .inr rfl, .inr rfl, .inr rfl, trivial⟩⟩
        · exfalso
          have : once ans n cur = cur := by rw [hco, e2]
          simp [this] at h
  · obtain ⟨cur, hcur, _⟩ := hI
    rw [rng_len] at hcur
    omega
end
end Q

set_option Elab.async false
set_option linter.all false
set_option maxRecDepth 100000
set_option maxHeartbeats 0
namespace Q
open PySem PySem.Spec PyProof.Rows L2 Z
def spLaw (K : PySem.W.Frag) : Sp := fun vs H Q _ => ∃ (a : Addr) (ns : List Int), vs = [.ref a] ∧ SqL K H a (ns.map V.int) ∧ ns.length ≤ 63 ∧ ∀ H', Q (.bl true) H'
def dd0 : He.DefD := dTop "is_answers" (topS 9)
def dd1 : He.DefD := dTop "is_row" (topS 10)
def dd2 : He.DefD := dTop "different" (topS 11)
def dd3 : He.DefD := dTop "knots_of" (topS 16)
def dd4 : He.DefD := dTop "lowered" (topS 18)
def dd5 : He.DefD := dTop "pushed_at" (topS 19)
def dd6 : He.DefD := dTop "pushed" (topS 20)
def dd7 : He.DefD := dTop "pushed_once" (topS 21)
def dd8 : He.DefD := dTop "marks_of" (topS 23)
def dd9 : He.DefD := dTop "inside_of" (topS 24)
def dd10 : He.DefD := dTop "surplus_of" (topS 25) [("tries", .int 1)]
def dd11 : He.DefD := dTop "_law_cell" (topS 27)
def dd12 : He.DefD := dTop "_law_digits" (topS 28)
def dd13 : He.DefD := dTop "_law_lots" (topS 29)
def dd14 : He.DefD := dTop "_law_all_rows" (topS 30)
def dd15 : He.DefD := dTop "_law_knots" (topS 31)
def dd16 : He.DefD := dTop "_law_surplus" (topS 32)
def dd17 : He.DefD := dTop "_law_is_full" (topS 33)
def dd18 : He.DefD := dTop "_law_full_sets" (topS 34)
def dd19 : He.DefD := dTop "_law_two" (topS 35)
def dd20 : He.DefD := dTop "_law_push" (topS 36)
def dd21 : He.DefD := dTop "_law_closed" (topS 37)
def dd22 : He.DefD := dTop "law" (topS 38)
def dd23 : He.DefD := dMet "Web" "__init__" "Web.__init__" (inClass (topS 15) 0)
def dd24 : He.DefD := dMet "Web" "__eq__" "Web.__eq__" (inClass (topS 15) 4)
def fns : List He.DefD := ([dd0, dd1, dd2, dd3, dd4, dd5, dd6, dd7, dd8, dd9, dd10, dd11, dd12, dd13, dd14, dd15, dd16, dd17, dd18, dd19, dd20, dd21, dd22, dd23, dd24] : List He.DefD)
def fas : List He.Fa := ([.glo "is_answers", .glo "is_row", .glo "different", .glo "knots_of", .glo "lowered", .glo "pushed_at", .glo "pushed", .glo "pushed_once", .glo "marks_of", .glo "inside_of", .glo "surplus_of", .glo "_law_cell", .glo "_law_digits", .glo "_law_lots", .glo "_law_all_rows", .glo "_law_knots", .glo "_law_surplus", .glo "_law_is_full", .glo "_law_full_sets", .glo "_law_two", .glo "_law_push", .glo "_law_closed", .glo "law", .meth "Web" "__init__", .meth "Web" "__eq__", .free "len", .free "range", .free "int", .free "tuple", .free "list"] : List He.Fa) ++ ([.free "sorted", .free "sum", .free "max", .free "isinstance", .cls "Web", .mkr "Web", .glo "Web", .noat "Web" "answers", .noat "Web" "places", .noat "Web" "rows", .noat "Web" "knots", .int "MOST_PLACES" 6, .int "MOST_ROWS" 32] : List He.Fa)
def exs : List (PySem.W.Frag → Bool) := ([isiB "Web", neB "Web"] : List (PySem.W.Frag → Bool))
def loos : List Str := (["_wall", "__name__", "SchoolError", "BadAnswers", "EmptyWeb", "BadRow", "TooManyRows", "AnswersDiffer", "is_answers", "is_row", "different", "MOST_PLACES", "MOST_ROWS", "Web", "knots_of", "lowered", "pushed_at", "pushed", "pushed_once", "marks_of", "inside_of", "surplus_of", "_law_cell", "_law_digits", "_law_lots", "_law_all_rows", "_law_knots", "_law_surplus", "_law_is_full", "_law_full_sets"] : List Str) ++ (["_law_two", "_law_push", "_law_closed"] : List Str)
abbrev RR : PySem.W.OpenRow := PySem.W.OpenLaw.row PySem.Challenge.rw_oneleftout_k82_pushing
abbrev hkk : PySem.W.Hook := hookZ 4 fas exs fns
def obb (s : PySem.W.SharedT) : He.AlD := obsZG 4 fas exs fns (HandSHeadRun.getT s)
theorem obb_eq (s : PySem.W.SharedT) : obb s = hkk.obs s.abs := obsZG_eq (HandSHeadRun.getT_eq s)
theorem run (w : World) : HandSHeadRun.RunEq RR (PySem.W.view RR.prog [38]) hkk obb 3000 loos w := by
  intro os
  kernel_rfl
theorem facts {P : Program} {w : World} {K : PySem.W.Frag} {h : Heap} {mg : Str → Option Value} {f : Addr} (X : K.In h) (G : h.Ns mainGlobals mg) (hfa : mg ("law" : Str) = some (.ref f)) (c : SaysZ fas exs fns K) :
    ∃ fd : FuncData, (∀ (s : Shared) (v : Value), BindsTo s fd ⟨[v], []⟩ [("script", v)]) ∧ ∀ base : Heap, K.In base → base.Ns mainGlobals mg → FnOk P w K mg base CX0 9 f fd ["script"] (spLaw K) := by
  have B : Bt mg := ⟨He.free_ok X G (c.fact 25), He.free_ok X G (c.fact 26), He.free_ok X G (c.fact 27), He.free_ok X G (c.fact 28), He.free_ok X G (c.fact 29), He.free_ok X G (c.fact 30), He.free_ok X G (c.fact 31), He.free_ok X G (c.fact 32), He.free_ok X G (c.fact 33)⟩
  have C : Cn K mg := ⟨He.cls_ok (c.fact 34), He.mkr_ok (c.fact 35), He.glo_ok X G (c.fact 36), He.noat_ok (c.fact 37), He.noat_ok (c.fact 38), He.noat_ok (c.fact 39), He.noat_ok (c.fact 40), isi_ok (c.ext 0), ne_ok (c.ext 1), He.int_ok X G (c.fact 41), He.int_ok X G (c.fact 42)⟩
  obtain ⟨fL, fd, FL, hm⟩ := (c.fn0 X G 22 22 (x := "law") (st := sLaw) (kwd := [])).ex
  have e : fL = f := by
    rw [hfa] at hm
    exact (Value.ref.inj (Option.some.inj hm)).symm
  subst e
  refine ⟨fd, fun s v => FL.bindsA (ps := ["script"]) (fun _ _ _ _ _ _ us hl => match us, hl with | [_], _ => rfl) s [v] rfl, fun base _ _ => ?_⟩
  have a1 := D_is_answers (P := P) (w := w) (base := base) (c.fn0 X G 0 0) B
  have a2 := D_is_row (P := P) (w := w) (base := base) (c.fn0 X G 1 1) B
  have a3 := D_different (P := P) (w := w) (base := base) (c.fn0 X G 2 2) B
  have a4 := D_knots_of (P := P) (w := w) (base := base) (c.fn0 X G 3 3) B
  have a5 := D_Web (P := P) (w := w) (base := base) (c.mt0 23 23) B C a1 a2 a3 a4
  have a6 := D_eq (P := P) (w := w) (base := base) (c.mt0 24 24) B C
  have a7 := D_lowered (P := P) (w := w) (base := base) (c.fn0 X G 4 4) C
  have a8 := D_pushed_at (P := P) (w := w) (base := base) (c.fn0 X G 5 5) B C a7 a5
  have a9 := D_pushed_once (P := P) (w := w) (base := base) (c.fn0 X G 7 7) B C a8
  have b1 := D_pushed (P := P) (w := w) (base := base) (c.fn0 X G 6 6) B C a9 a6
  have b2 := D_marks_of (P := P) (w := w) (base := base) (c.fn0 X G 8 8) B
  have b3 := D_inside_of (P := P) (w := w) (base := base) (c.fn0 X G 9 9) B
  have b4 := D_surplus_of (P := P) (w := w) (base := base) (c.fn0 X G 10 10) B C b2 b3
  have b5 := D_cell (P := P) (w := w) (base := base) (c.fn0 X G 11 11) B
  have b6 := D_digits (P := P) (w := w) (base := base) (c.fn0 X G 12 12) B
  have b7 := D_lots (P := P) (w := w) (base := base) (c.fn0 X G 13 13) B
  have b8 := D_all_rows (P := P) (w := w) (base := base) (c.fn0 X G 14 14) B
  have b9 := D_lknots (P := P) (w := w) (base := base) (c.fn0 X G 15 15) B
  have c1 := D_lsurp (P := P) (w := w) (base := base) (c.fn0 X G 16 16) B
  have c2 := D_is_full (P := P) (w := w) (base := base) (c.fn0 X G 17 17) B
  have c3 := D_full_sets (P := P) (w := w) (base := base) (c.fn0 X G 18 18) B b7 c2
  have c4 := D_two (P := P) (w := w) (base := base) (c.fn0 X G 19 19) B b5 b6 b8
  have c5 := D_lpush (P := P) (w := w) (base := base) (c.fn0 X G 20 20) B
  have c6 := D_closed (P := P) (w := w) (base := base) (c.fn0 X G 21 21) B
  refine (D_law (P := P) (w := w) (base := base) B C c4 a5 c3 c5 a8 b9 c1 b1 c6 b4 a6 FL).imp fun vs H Q E ⟨a, ns, ev, hs, _, q⟩ => ⟨ns, H, Same.refl _, by rw [ev]; exact .cons ⟨a, rfl, hs⟩ .nil, trivial, fun v F' H' g r => by rw [show v = _ from r]; exact q H'⟩
end Q
open PySem PySem.W PySem.Calls PyProof.Rows
set_option maxHeartbeats 0
theorem PySem.Challenge.cw_oneleftout_k82_pushing_holds : PySem.Challenge.rw_oneleftout_k82_pushing.Holds := by
  w_on; o_law
  refine HandSHeadRun.head_any (r := OpenLaw.row PySem.Challenge.rw_oneleftout_k82_pushing) (q := view (OpenLaw.row PySem.Challenge.rw_oneleftout_k82_pushing).prog [38]) (H := Q.hkk) (ob := Q.obb) (M := 3000) (loose := Q.loos) (d := HandSHeadRun.topDef (OpenLaw.row PySem.Challenge.rw_oneleftout_k82_pushing).prog 38) (kwd := []) Q.obb_eq
    (by kernel_rfl) (fun s => by kernel_rfl) Q.run (by kernel_rfl) (by kernel_rfl) (by kernel_rfl) (by rfl) (by first | assumption | decide +kernel) (by decide +kernel) ⟨rfl, rfl, rfl, rfl, rfl, by decide +kernel⟩ ?hw ?hc
  case hw => w_witness2
  case hc =>
    refine L2.walk_ofE (l := PySem.Challenge.rw_oneleftout_k82_pushing) (n := 63) (k := 9) (x := "script") (CX := L2.CX0) rfl (by decide) (by kernel_rfl) ⟨rfl, by decide, by decide⟩ ?F (fun _ _ _ _ z => z)
    intro w mg fa h Y G hmg0
    obtain ⟨K, KX, c⟩ := Y
    have hmg : mg ("law" : PySem.Str) = some (.ref fa) := by
      have e : (HandSHeadRun.topDef (OpenLaw.row PySem.Challenge.rw_oneleftout_k82_pushing).prog 38).name = ("law" : PySem.Str) := by kernel_rfl
      rw [← e]
      exact hmg0
    obtain ⟨fd, hb, hF⟩ := Q.facts (P := (PySem.Challenge.rw_oneleftout_k82_pushing).prog) (w := w) KX G hmg c
    exact ⟨K, fd, Q.spLaw K, KX, hb, fun H a ns hl _ hS => ⟨a, ns, rfl, hS, hl, fun _ => rfl⟩, hF⟩
