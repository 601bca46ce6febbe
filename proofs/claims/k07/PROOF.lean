import PyProof.Rows.All
import Wide.All
import OpenK.AllK
import Wide.FinOn
import HandS.ForMost
import HandS.ForExc
import HandS.CallSlots
import HandS.IsInst
import HandS.TupAny
import HandS.TupMul
import HandS.Wide
import HandS.WideBits
import HandS.Walk
import HandS.Zip
import HandS.More
import HandS.Defaults
import HandS.TryMany
import HandS.HeadEnd
import HandS.HeadHook1
import HandS.HeadHook2
import HandS.Head0
import HandS.Head1
import HandS.Head2
import KE.KStateDown
import PySem.Challenge.RW_coastersafe_k07_rolls
-- part Z0
section
set_option Elab.async false
set_option linter.all false
set_option maxRecDepth 100000
set_option autoImplicit false
/-! # Z: a small functional reading of Python over HandS: data P, cells, results; each construct's rule gives a Lean function. -/
namespace Z
open PySem PySem.Spec PyProof.Rows L2

/-- pure data -/
inductive P where
  | non | bl (b : Bool) | int (i : Int) | str (x : Str)
  | tup (ps : List P) | lst (ps : List P) | dct (ks vs : List P) | obj (c : Str) (ns : List Str) (ps : List P) | scr (ns : List Int)
/-- a value: data, or a cell of the store -/
inductive W where
  | val (p : P) | loc (n : Nat)
inductive Cell where
  | lst (ws : List W) | ins (c : Str) (ns : List Str) (ws : List W) | frz (p : P)
abbrev Store := List Cell
abbrev Env := List (Option W)
structure Xn where
  cls : Str
  ns : List Str
  ps : List P
inductive RE (α : Type) where
  | ok (a : α) (S : Store) | ex (x : Xn) (S : Store) | bad
inductive R where
  | nx (ρ : Env) (S : Store) | rt (w : W) (S : Store) | bk (ρ : Env) (S : Store) | ct (ρ : Env) (S : Store) | ex (x : Xn) (ρ : Env) (S : Store) | bad
inductive Rp where
  | ok (p : P) | ex (x : Xn) | bad
abbrev FE (α : Type) := Env → Store → RE α
abbrev FS := Env → Store → R

/-! ### representation -/
def Ex (H H' : Hp) : Prop := ∀ a o, H a = some o → H' a = some o
theorem Ex.refl (H : Hp) : Ex H H := fun _ _ h => h
theorem Ex.trans {H H1 H2 : Hp} (a : Ex H H1) (b : Ex H1 H2) : Ex H H2 := fun x o h => b x o (a x o h)
theorem Ex.new {H : Hp} {p : Addr} {o : HO} (h : H p = none) : Ex H (upd H p o) := fun a u e => by
  rw [upd_ne (ne_of_none e h)]; exact e
theorem Ex.mut {H H' : Hp} {p : Addr} {o : HO} (e : Ex H H') (h : H p = none) : Ex H (upd H' p o) := fun a u ha => by
  rw [upd_ne (ne_of_none ha h)]; exact e a u ha
theorem Ex.both {H H' : Hp} {p : Addr} {o : HO} (e : Ex H H') (h : H' p = none) : Ex (upd H p o) (upd H' p o) := fun a u ha => by
  by_cases q : a = p
  · subst q; rw [upd_same] at ha ⊢; exact ha
  · rw [upd_ne q] at ha ⊢; exact e a u ha
theorem Ex.back {H H' : Hp} {p : Addr} (e : Ex H H') (h : H' p = none) : H p = none := by
  cases h1 : H p with
  | none => rfl
  | some o => rw [e p o h1] at h; cases h
theorem Ex.rd {H H' : Hp} {a : Addr} {u : HO} (e : Ex H H') (h : Rd H a u) : Rd H' a u := by
  rcases h with h | ⟨o, h⟩
  · exact .inl (e a _ h)
  · exact .inr ⟨o, e a _ h⟩
theorem Ex.sl {K : PySem.W.Frag} {H H' : Hp} {a : Addr} {xs : List V} (e : Ex H H') (h : SqL K H a xs) : SqL K H' a xs := by
  rcases h with h | h
  · exact .inl (e.rd h)
  · exact .inr h
theorem Ex.st {K : PySem.W.Frag} {H H' : Hp} {a : Addr} {xs : List V} (e : Ex H H') (h : SqT K H a xs) : SqT K H' a xs := by
  rcases h with h | h
  · exact .inl (e.rd h)
  · exact .inr h

section
variable (K : PySem.W.Frag) (CT : Str → Addr) (F : Hp)
mutual
def RepP : P → V → Prop
  | .non, v => v = .non
  | .bl b, v => v = .bl b
  | .int i, v => v = .int i
  | .str x, v => v = .str x
  | .tup ps, v => ∃ a vs, v = .ref a ∧ SqT K F a vs ∧ RepL ps vs
  | .lst ps, v => ∃ a vs, v = .ref a ∧ F a = some (.lst vs) ∧ RepL ps vs
  | .scr ns, v => ∃ a, v = .ref a ∧ SqL K F a (ns.map V.int)
  | .dct _ _, _ => False
  | .obj c ns ps, v => ∃ a dx vs, v = .ref a ∧ F a = some (.ins (CT c) dx (ns.zip vs)) ∧ ns.length = ps.length ∧ RepL ps vs
def RepL : List P → List V → Prop
  | [], vs => vs = []
  | p :: ps, vs => ∃ v vs', vs = v :: vs' ∧ RepP p v ∧ RepL ps vs'
end
end
section
variable {K : PySem.W.Frag} {CT : Str → Addr} {F F' : Hp}
mutual
theorem RepP.mono (e : Ex F F') : ∀ {p : P} {v : V}, RepP K CT F p v → RepP K CT F' p v
  | .non, _, h => h
  | .bl _, _, h => h
  | .int _, _, h => h
  | .str _, _, h => h
  | .tup ps, _, ⟨a, vs, h1, h2, h3⟩ => ⟨a, vs, h1, e.st h2, RepL.mono e h3⟩
  | .lst ps, _, ⟨a, vs, h1, h2, h3⟩ => ⟨a, vs, h1, e _ _ h2, RepL.mono e h3⟩
  | .scr ns, _, ⟨a, h1, h2⟩ => ⟨a, h1, e.sl h2⟩
  | .dct _ _, _, h => h.elim
  | .obj c ns ps, _, ⟨a, dx, vs, h1, h2, hl, h3⟩ => ⟨a, dx, vs, h1, e _ _ h2, hl, RepL.mono e h3⟩
theorem RepL.mono (e : Ex F F') : ∀ {ps : List P} {vs : List V}, RepL K CT F ps vs → RepL K CT F' ps vs
  | [], _, h => h
  | p :: ps, _, ⟨v, vs', h1, h2, h3⟩ => ⟨v, vs', h1, RepP.mono e h2, RepL.mono e h3⟩
end
theorem RepL.length : ∀ {ps : List P} {vs : List V}, RepL K CT F ps vs → vs.length = ps.length
  | [], _, h => by rw [show _ = _ from h]; rfl
  | p :: ps, _, ⟨v, vs', h1, h2, h3⟩ => by rw [h1, List.length_cons, List.length_cons, RepL.length h3]
theorem RepL.get : ∀ {ps : List P} {vs : List V} {i : Nat} {v : V}, RepL K CT F ps vs → vs[i]? = some v → ∃ p, ps[i]? = some p ∧ RepP K CT F p v
  | [], _, _, _, h, e => by rw [show _ = _ from h] at e; simp at e
  | p :: ps, _, 0, v, ⟨v', vs', h1, h2, h3⟩, e => by subst h1; simp at e; subst e; exact ⟨p, rfl, h2⟩
  | p :: ps, _, i + 1, v, ⟨v', vs', h1, h2, h3⟩, e => by subst h1; simp at e; simpa using RepL.get h3 e
theorem RepL.get' : ∀ {ps : List P} {vs : List V} {i : Nat} {p : P}, RepL K CT F ps vs → ps[i]? = some p → ∃ v, vs[i]? = some v ∧ RepP K CT F p v
  | [], _, _, _, h, e => by simp at e
  | p :: ps, _, 0, q, ⟨v', vs', h1, h2, h3⟩, e => by subst h1; simp at e; subst e; exact ⟨v', rfl, h2⟩
  | p :: ps, _, i + 1, q, ⟨v', vs', h1, h2, h3⟩, e => by subst h1; simp at e; simpa using RepL.get' h3 e
theorem RepL.append : ∀ {ps qs : List P} {vs us : List V}, RepL K CT F ps vs → RepL K CT F qs us → RepL K CT F (ps ++ qs) (vs ++ us)
  | [], _, _, _, h, q => by rw [show _ = _ from h]; exact q
  | p :: ps, _, _, _, ⟨v', vs', h1, h2, h3⟩, q => by subst h1; exact ⟨v', _, rfl, h2, RepL.append h3 q⟩
end

/-! ### the state -/
structure Fs where
  G : Hp
  F : Hp
  m : List Addr
structure Ext (s s' : Fs) : Prop where
  g : s.G = s'.G
  f : Ex s.F s'.F
  m : ∀ (n : Nat) (a : Addr), s.m[n]? = some a → s'.m[n]? = some a
  new : ∀ a, s.F a = none → s.G a ≠ none → s'.F a = none
theorem Ext.refl (s : Fs) : Ext s s := ⟨rfl, Ex.refl _, fun _ _ h => h, fun _ h _ => h⟩
theorem Ext.trans {s s1 s2 : Fs} (a : Ext s s1) (b : Ext s1 s2) : Ext s s2 :=
  ⟨a.g.trans b.g, a.f.trans b.f, fun n x h => b.m n x (a.m n x h), fun x h g => b.new x (a.new x h g) (by rw [← a.g]; exact g)⟩

section
variable (K : PySem.W.Frag) (CT : Str → Addr)
def RepW (s : Fs) : W → V → Prop
  | .val p, v => RepP K CT s.F p v
  | .loc n, v => ∃ a, s.m[n]? = some a ∧ v = .ref a
def RepWs (s : Fs) : List W → List V → Prop
  | [], vs => vs = []
  | w :: ws, vs => ∃ v vs', vs = v :: vs' ∧ RepW K CT s w v ∧ RepWs s ws vs'
def CellOk (s : Fs) (H : Hp) (a : Addr) : Cell → Prop
  | .lst ws => s.F a = none ∧ s.G a = none ∧ ∃ vs, H a = some (.lst vs) ∧ RepWs K CT s ws vs
  | .ins c ns ws => s.F a = none ∧ s.G a = none ∧ ∃ dx vs, H a = some (.ins (CT c) dx (ns.zip vs)) ∧ ns.length = ws.length ∧ RepWs K CT s ws vs
  | .frz p => RepP K CT s.F p (.ref a)
end
def live : Cell → Prop
  | .frz _ => False
  | _ => True
structure Gd (K : PySem.W.Frag) (CT : Str → Addr) (s : Fs) (S : Store) (H : Hp) : Prop where
  exF : Ex s.F H
  exG : Ex s.G H
  len : s.m.length = S.length
  cells : ∀ (n : Nat) (c : Cell) (a : Addr), S[n]? = some c → s.m[n]? = some a → CellOk K CT s H a c
  inj : ∀ (n n' : Nat) (c c' : Cell) (a : Addr), S[n]? = some c → S[n']? = some c' → live c → live c' → s.m[n]? = some a → s.m[n']? = some a → n = n'
structure EnvOk (K : PySem.W.Frag) (CT : Str → Addr) (s : Fs) (ρ : Env) (σ : L2.St) : Prop where
  len : ρ.length = σ.length
  get : ∀ (i : Nat) (w : W), ρ[i]? = some (some w) → ∃ v, σ[i]? = some (some v) ∧ RepW K CT s w v
def RepX (K : PySem.W.Frag) (CT : Str → Addr) (F : Hp) (x : Xn) (c : Value) (dd : Option Addr) : Prop :=
  c = .ref (CT x.cls) ∧ ((x.ns = [] ∧ x.ps = [] ∧ dd = none) ∨ ∃ d vs, dd = some d ∧ F d = some (.xd (x.ns.zip vs)) ∧ x.ns.length = x.ps.length ∧ RepL K CT F x.ps vs)

section
variable {K : PySem.W.Frag} {CT : Str → Addr} {s s' s1 : Fs} {S S' : Store} {H H' : Hp} {ρ : Env} {σ : L2.St}
theorem RepW.mono (e : Ext s s') {w : W} {v : V} (h : RepW K CT s w v) : RepW K CT s' w v := by
  cases w with
  | val p => exact RepP.mono e.f h
  | loc n => obtain ⟨a, h1, h2⟩ := h; exact ⟨a, e.m n a h1, h2⟩
theorem RepWs.mono (e : Ext s s') : ∀ {ws : List W} {vs : List V}, RepWs K CT s ws vs → RepWs K CT s' ws vs
  | [], _, h => h
  | w :: ws, _, ⟨v, vs', h1, h2, h3⟩ => ⟨v, vs', h1, h2.mono e, RepWs.mono e h3⟩
theorem RepWs.length : ∀ {ws : List W} {vs : List V}, RepWs K CT s ws vs → vs.length = ws.length
  | [], _, h => by rw [show _ = _ from h]; rfl
  | p :: ps, _, ⟨v, vs', h1, h2, h3⟩ => by rw [h1, List.length_cons, List.length_cons, RepWs.length h3]
theorem RepWs.append : ∀ {ps qs : List W} {vs us : List V}, RepWs K CT s ps vs → RepWs K CT s qs us → RepWs K CT s (ps ++ qs) (vs ++ us)
  | [], _, _, _, h, q => by rw [show _ = _ from h]; exact q
  | p :: ps, _, _, _, ⟨v', vs', h1, h2, h3⟩, q => by subst h1; exact ⟨v', _, rfl, h2, RepWs.append h3 q⟩
theorem RepWs.get' : ∀ {ps : List W} {vs : List V} {i : Nat} {p : W}, RepWs K CT s ps vs → ps[i]? = some p → ∃ v, vs[i]? = some v ∧ RepW K CT s p v
  | [], _, _, _, h, e => by simp at e
  | p :: ps, _, 0, q, ⟨v', vs', h1, h2, h3⟩, e => by subst h1; simp at e; subst e; exact ⟨v', rfl, h2⟩
  | p :: ps, _, i + 1, q, ⟨v', vs', h1, h2, h3⟩, e => by subst h1; simp at e; simpa using RepWs.get' h3 e
theorem EnvOk.mono (e : Ext s s') (h : EnvOk K CT s ρ σ) : EnvOk K CT s' ρ σ := ⟨h.len, fun i w q => let ⟨v, h1, h2⟩ := h.get i w q; ⟨v, h1, h2.mono e⟩⟩
theorem EnvOk.set (h : EnvOk K CT s ρ σ) {i : Nat} {w : W} {v : V} (r : RepW K CT s w v) : EnvOk K CT s (ρ.set i (some w)) (σ.set i (some v)) := by
  refine ⟨by rw [List.length_set, List.length_set, h.len], fun j u q => ?_⟩
  rw [List.getElem?_set] at q
  by_cases e : i = j
  · rw [if_pos e] at q
    by_cases l : i < ρ.length
    · rw [if_pos l] at q
      cases q
      exact ⟨v, by rw [List.getElem?_set, if_pos e, if_pos (by rw [← h.len]; exact l)], r⟩
    · rw [if_neg l] at q; cases q
  · rw [if_neg e] at q
    obtain ⟨x, h1, h2⟩ := h.get j u q
    exact ⟨x, by rw [List.getElem?_set, if_neg e]; exact h1, h2⟩
theorem EnvOk.unset (h : EnvOk K CT s ρ σ) {i : Nat} (x : Option V) : EnvOk K CT s (ρ.set i none) (σ.set i x) := by
  refine ⟨by rw [List.length_set, List.length_set, h.len], fun j u q => ?_⟩
  rw [List.getElem?_set] at q
  by_cases e : i = j
  · rw [if_pos e] at q
    by_cases l : i < ρ.length
    · rw [if_pos l] at q; cases q
    · rw [if_neg l] at q; cases q
  · rw [if_neg e] at q
    obtain ⟨x, h1, h2⟩ := h.get j u q
    exact ⟨x, by rw [List.getElem?_set, if_neg e]; exact h1, h2⟩

/-- frozen things grow, the store and its cells as they are -/
theorem Gd.grow (g : Gd K CT s S H) {F' H' : Hp} (eF : Ex s.F F') (eH : Ex H H') (eFH : Ex F' H') (new : ∀ a, s.F a = none → H a ≠ none → F' a = none) :
    Gd K CT { s with F := F' } S H' ∧ Ext s { s with F := F' } := by
  have x : Ext s { s with F := F' } := ⟨rfl, eF, fun _ _ h => h, fun a h hg => new a h (by
    cases q : s.G a with
    | none => exact absurd q hg
    | some o => rw [g.exG a o q]; simp)⟩
  refine ⟨⟨eFH, g.exG.trans eH, g.len, fun n c a h1 h2 => ?_, g.inj⟩, x⟩
  have q := g.cells n c a h1 h2
  cases c with
  | lst ws =>
    obtain ⟨q1, q2, vs, q3, q4⟩ := q
    exact ⟨new a q1 (by rw [q3]; simp), q2, vs, eH _ _ q3, q4.mono x⟩
  | ins c ns ws =>
    obtain ⟨q1, q2, dx, vs, q3, ql, q4⟩ := q
    exact ⟨new a q1 (by rw [q3]; simp), q2, dx, vs, eH _ _ q3, ql, q4.mono x⟩
  | frz p => exact RepP.mono eF q
theorem Gd.newF (g : Gd K CT s S H) {p : Addr} (hp : H p = none) (o : HO) : Gd K CT { s with F := upd s.F p o } S (upd H p o) ∧ Ext s { s with F := upd s.F p o } :=
  g.grow (Ex.new (g.exF.back hp)) (Ex.new hp) (Ex.both g.exF hp) (fun a h1 h2 => by
    rw [upd_ne (fun e => h2 (by rw [e]; exact hp))]; exact h1)
theorem get_snoc {α : Type} {l : List α} {x y : α} {n : Nat} (h : (l ++ [x])[n]? = some y) : l[n]? = some y ∨ (n = l.length ∧ y = x) := by
  rcases Nat.lt_trichotomy n l.length with c | c | c
  · rw [List.getElem?_append_left c] at h; exact .inl h
  · subst c; simp at h; exact .inr ⟨rfl, h.symm⟩
  · rw [List.getElem?_append_right (Nat.le_of_lt c)] at h
    have : n - l.length ≠ 0 := by omega
    obtain ⟨k, hk⟩ := Nat.exists_eq_succ_of_ne_zero this
    rw [hk] at h; simp at h
theorem snoc_ext {l : List Addr} {p : Addr} : ∀ (n : Nat) (a : Addr), l[n]? = some a → (l ++ [p])[n]? = some a := fun n a h => by
  have := (List.getElem?_eq_some_iff.mp h).1
  rw [List.getElem?_append_left this]; exact h
/-- a new cell -/
theorem Gd.newC (g : Gd K CT s S H) {p : Addr} (hp : H p = none) {o : HO} {c : Cell} (H' : Hp) (hH : Ex H H') (hH' : H' p = some o)
    (hc : ∀ s' : Fs, Ext s s' → s'.F p = none → s'.G p = none → CellOk K CT s' H' p c) :
    Gd K CT { s with m := s.m ++ [p] } (S ++ [c]) H' ∧ Ext s { s with m := s.m ++ [p] } ∧ (s.m ++ [p])[S.length]? = some p := by
  have x : Ext s { s with m := s.m ++ [p] } := ⟨rfl, Ex.refl _, snoc_ext, fun _ h _ => h⟩
  have old : ∀ (n : Nat) (c : Cell) (a : Addr), S[n]? = some c → s.m[n]? = some a → live c → a ≠ p := fun n c a h1 h2 hl => by
    have q := g.cells n c a h1 h2
    cases c with
    | lst ws => obtain ⟨q1, q2, vs, q3, q4⟩ := q; exact ne_of_none q3 hp
    | ins c ns ws => obtain ⟨q1, q2, dx, vs, q3, ql, q4⟩ := q; exact ne_of_none q3 hp
    | frz p => exact hl.elim
  have key : ∀ (n : Nat) (c' : Cell) (a : Addr), (S ++ [c])[n]? = some c' → (s.m ++ [p])[n]? = some a → (S[n]? = some c' ∧ s.m[n]? = some a) ∨ (n = S.length ∧ c' = c ∧ a = p) := fun n c' a h1 h2 => by
    rcases get_snoc h1 with q | ⟨q, q'⟩
    · rcases get_snoc h2 with r | ⟨r, r'⟩
      · exact .inl ⟨q, r⟩
      · have := (List.getElem?_eq_some_iff.mp q).1
        rw [g.len] at r; omega
    · rcases get_snoc h2 with r | ⟨r, r'⟩
      · have := (List.getElem?_eq_some_iff.mp r).1
        rw [g.len] at this; omega
      · exact .inr ⟨q, q', r'⟩
  refine ⟨⟨g.exF.trans hH, g.exG.trans hH, by simp [g.len], fun n c' a h1 h2 => ?_, fun n n' c1 c2 a h1 h2 l1 l2 e1 e2 => ?_⟩, x, by rw [← g.len]; simp⟩
  · rcases key n c' a h1 h2 with ⟨q, r⟩ | ⟨q, rfl, rfl⟩
    · have q := g.cells n c' a q r
      cases c' with
      | lst ws => obtain ⟨q1, q2, vs, q3, q4⟩ := q; exact ⟨q1, q2, vs, hH _ _ q3, q4.mono x⟩
      | ins c ns ws => obtain ⟨q1, q2, dx, vs, q3, ql, q4⟩ := q; exact ⟨q1, q2, dx, vs, hH _ _ q3, ql, q4.mono x⟩
      | frz p => exact q
    · exact hc _ x (g.exF.back hp) (g.exG.back hp)
  · rcases key n c1 a h1 e1 with ⟨q, r⟩ | ⟨q, rfl, rfl⟩
    · rcases key n' c2 a h2 e2 with ⟨q', r'⟩ | ⟨q', rfl, rfl⟩
      · exact g.inj n n' c1 c2 a q q' l1 l2 r r'
      · exact absurd rfl (old n c1 _ q r l1)
    · rcases key n' c2 _ h2 e2 with ⟨q', r'⟩ | ⟨q', rfl, _⟩
      · exact absurd rfl (old n' c2 _ q' r' l2)
      · rw [q, q']
/-- a live cell changes -/
theorem Gd.setC (g : Gd K CT s S H) {n : Nat} {a : Addr} {c c' : Cell} {o' : HO} (h1 : S[n]? = some c) (hl : live c) (h2 : s.m[n]? = some a)
    (hF : s.F a = none) (hG : s.G a = none) (hH : H a ≠ none) (hc : CellOk K CT s (upd H a o') a c') : Gd K CT s (S.set n c') (upd H a o') := by
  have oth : ∀ (n' : Nat) (c' : Cell) (a' : Addr), S[n']? = some c' → s.m[n']? = some a' → live c' → n ≠ n' → a' ≠ a := fun n' c' a' q1 q2 l ne e => by
    subst e; exact ne (g.inj n n' c c' a' h1 q1 hl l h2 q2)
  have nlt := (List.getElem?_eq_some_iff.mp h1).1
  refine ⟨Ex.mut g.exF hF, Ex.mut g.exG hG, by rw [List.length_set]; exact g.len, fun n' d b q1 q2 => ?_, fun n1 n2 d1 d2 b q1 q2 l1 l2 e1 e2 => ?_⟩
  · rw [List.getElem?_set] at q1
    by_cases e : n = n'
    · subst e
      rw [if_pos rfl, if_pos nlt] at q1
      cases q1
      rw [h2] at q2; cases q2
      exact hc
    · rw [if_neg e] at q1
      have q := g.cells n' d b q1 q2
      cases d with
      | lst ws => obtain ⟨r1, r2, vs, r3, r4⟩ := q; exact ⟨r1, r2, vs, by rw [upd_ne (oth n' _ b q1 q2 trivial e)]; exact r3, r4⟩
      | ins c ns ws => obtain ⟨r1, r2, dx, vs, r3, ql, r4⟩ := q; exact ⟨r1, r2, dx, vs, by rw [upd_ne (oth n' _ b q1 q2 trivial e)]; exact r3, ql, r4⟩
      | frz p => exact q
  · have back : ∀ (k : Nat) (d : Cell), (S.set n c')[k]? = some d → live d → ∃ d', S[k]? = some d' ∧ live d' := fun k d q l => by
      rw [List.getElem?_set] at q
      by_cases e : n = k
      · subst e; exact ⟨c, h1, hl⟩
      · rw [if_neg e] at q; exact ⟨d, q, l⟩
    obtain ⟨d1', r1, l1'⟩ := back n1 d1 q1 l1
    obtain ⟨d2', r2, l2'⟩ := back n2 d2 q2 l2
    exact g.inj n1 n2 d1' d2' b r1 r2 l1' l2' e1 e2
theorem Gd.addr (g : Gd K CT s S H) {n : Nat} {c : Cell} (h : S[n]? = some c) : ∃ a, s.m[n]? = some a := by
  have := (List.getElem?_eq_some_iff.mp h).1
  rw [← g.len] at this
  exact ⟨_, List.getElem?_eq_getElem this⟩
end
end Z
end
-- part Z1
section
set_option Elab.async false
set_option linter.all false
set_option maxRecDepth 100000
set_option autoImplicit false
namespace Z
open PySem PySem.Spec PyProof.Rows L2

def RE.bind {α β : Type} (r : RE α) (k : α → Store → RE β) : RE β := match r with
  | .ok a S => k a S
  | .ex x S => .ex x S
  | .bad => .bad
def RG {α β : Type} (K : PySem.W.Frag) (CT : Str → Addr) (Rel : Fs → α → β → Prop) (s : Fs) (r : RE α) (Q : β → Hp → Prop) (EX : Value → Option Addr → Hp → Prop) : Prop :=
  match r with
  | .ok a S' => ∀ s' H' b, Ext s s' → Gd K CT s' S' H' → Rel s' a b → Q b H'
  | .ex x S' => ∀ s' H' c dd, Ext s s' → Gd K CT s' S' H' → RepX K CT s'.F x c dd → EX c dd H'
  | .bad => False
section
variable {K : PySem.W.Frag} {CT : Str → Addr} {s s' : Fs} {α β γ δ : Type} {Ra : Fs → α → γ → Prop} {Rb : Fs → β → δ → Prop} {EX : Value → Option Addr → Hp → Prop}
theorem RG.ext {r : RE α} {Q : γ → Hp → Prop} (e : Ext s s') (h : RG K CT Ra s r Q EX) : RG K CT Ra s' r Q EX := by
  cases r with
  | ok a S => exact fun s2 H2 b x g q => h s2 H2 b (e.trans x) g q
  | ex x S => exact fun s2 H2 c dd x g q => h s2 H2 c dd (e.trans x) g q
  | bad => exact h
theorem RG.step {r : RE α} {k : α → Store → RE β} {Q : δ → Hp → Prop} {Q1 : γ → Hp → Prop} (h : RG K CT Rb s (r.bind k) Q EX)
    (hk : ∀ a S1 s1 H1 b, Ext s s1 → Gd K CT s1 S1 H1 → Ra s1 a b → RG K CT Rb s1 (k a S1) Q EX → Q1 b H1) : RG K CT Ra s r Q1 EX := by
  cases r with
  | ok a S => exact fun s2 H2 b x g q => hk a S s2 H2 b x g q (RG.ext x h)
  | ex x S => exact h
  | bad => exact h
theorem RG.here {a : α} {S : Store} {H : Hp} {b : γ} {Q : γ → Hp → Prop} (h : RG K CT Ra s (.ok a S) Q EX) (g : Gd K CT s S H) (r : Ra s a b) : Q b H := h s H b (Ext.refl s) g r
theorem RG.imp {r : RE α} {Q Q1 : γ → Hp → Prop} (h : RG K CT Ra s r Q EX) (q : ∀ b H, Q b H → Q1 b H) : RG K CT Ra s r Q1 EX := by
  cases r with
  | ok a S => exact fun s2 H2 b x g r => q _ _ (h s2 H2 b x g r)
  | ex x S => exact h
  | bad => exact h
end

section
variable (K : PySem.W.Frag) (CT : Str → Addr) (U : WX)
def canE (f : FE W) : TE := fun σ H Q => ∃ s S ρ, Gd K CT s S H ∧ EnvOk K CT s ρ σ ∧ RG K CT (RepW K CT) s (f ρ S) Q (fun c d H' => U c d σ H')
def canT (f : FE Bool) : TT := fun σ H Q => ∃ s S ρ, Gd K CT s S H ∧ EnvOk K CT s ρ σ ∧ RG K CT (fun _ a b => a = b) s (f ρ S) Q (fun c d H' => U c d σ H')
def canA (f : FE (List W)) : TA := fun σ H Q => ∃ s S ρ, Gd K CT s S H ∧ EnvOk K CT s ρ σ ∧ RG K CT (RepWs K CT) s (f ρ S) Q (fun c d H' => U c d σ H')
end
abbrev PZ (X : Cx) (CT : Str → Addr) (U : WX) (e : Expr) (f : FE W) : Prop := PE X e (canE X.K CT U f)
abbrev PZT (X : Cx) (CT : Str → Addr) (U : WX) (e : Expr) (f : FE Bool) : Prop := PT X e (canT X.K CT U f)
abbrev PZA (X : Cx) (CT : Str → Addr) (U : WX) (es : List Expr) (f : FE (List W)) : Prop := PA X es (canA X.K CT U f)
theorem weakE {X : Cx} {e : Expr} {t t' : TE} (h : PE X e t) (w : ∀ σ H Q, t' σ H Q → t σ H Q) : PE X e t' := ⟨fun pins s σ H Q I q => h.run pins s σ H Q I (w σ H Q q)⟩
theorem weakT {X : Cx} {e : Expr} {t t' : TT} (h : PT X e t) (w : ∀ σ H Q, t' σ H Q → t σ H Q) : PT X e t' := ⟨fun pins s σ H Q I q => h.run pins s σ H Q I (w σ H Q q)⟩
theorem weakW {X : Cx} {e : Expr} {t t' : TT} (h : PW X e t) (w : ∀ σ H Q, t' σ H Q → t σ H Q) : PW X e t' := ⟨fun wh pins s σ H Q I q => h.run wh pins s σ H Q I (w σ H Q q)⟩
theorem weakA {X : Cx} {e : List Expr} {t t' : TA} (h : PA X e t) (w : ∀ σ H Q, t' σ H Q → t σ H Q) : PA X e t' := ⟨fun pos pins s σ H Q I q => h.run pos pins s σ H Q I (w σ H Q q)⟩

/-! ### atoms -/
def eVar (i : Nat) : FE W := fun ρ S => match ρ[i]? with
  | some (some w) => .ok w S
  | _ => .bad
def eCst (p : P) : FE W := fun _ S => .ok (.val p) S
section
variable {X : Cx} {CT : Str → Addr} {U : WX}
theorem pz_var (i : Nat) {x : Str} {pos : Pos} (hN : X.N[i]? = some x := by rfl) (hv : Vis X.env.scope x := by first | exact Or.inl rfl | exact Or.inr (Or.inl rfl) | exact Or.inr (Or.inr rfl)) (hd : (x == ("__debug__" : Str)) = false := by decide)
    (hcd : (x == ("__classdict__" : Str)) = false := by decide) : PZ X CT U (.Name x pos) (eVar i) := weakE (pe_var hN hv hd hcd) fun σ H Q ⟨s, S, ρ, g, en, h⟩ => by
  unfold eVar at h
  cases e : ρ[i]? with
  | none => rw [e] at h; exact h.elim
  | some o =>
    cases o with
    | none => rw [e] at h; exact h.elim
    | some w =>
      rw [e] at h
      obtain ⟨v, h1, h2⟩ := en.get i w e
      exact ⟨v, h1, RG.here h g h2⟩
theorem pz_int {i : Int} {j : Nat} {pos : Pos} : PZ X CT U (.Constant (.int i) j pos) (eCst (.int i)) := weakE pe_int fun σ H Q ⟨s, S, ρ, g, en, h⟩ => RG.here h g rfl
theorem pz_bl {i : Bool} {j : Nat} {pos : Pos} : PZ X CT U (.Constant (.bool i) j pos) (eCst (.bl i)) := weakE pe_bl fun σ H Q ⟨s, S, ρ, g, en, h⟩ => RG.here h g rfl
theorem pz_non {j : Nat} {pos : Pos} : PZ X CT U (.Constant .none j pos) (eCst .non) := weakE pe_non fun σ H Q ⟨s, S, ρ, g, en, h⟩ => RG.here h g rfl
theorem pz_str {i : Str} {j : Nat} {pos : Pos} : PZ X CT U (.Constant (.str i) j pos) (eCst (.str i)) := weakE pe_str fun σ H Q ⟨s, S, ρ, g, en, h⟩ => RG.here h g rfl
/-- a constant of the module -/
def H0 : Hp := fun _ => none
theorem Ex.h0 (H : Hp) : Ex H0 H := fun _ _ h => by cases h
structure GloOk (K : PySem.W.Frag) (CT : Str → Addr) (mg : Str → Option Value) (x : Str) (p : P) : Prop where
  ok : ∃ u v, mg x = some u ∧ RelV v u ∧ RepP K CT H0 p v
theorem pz_glob {x : Str} {pos : Pos} {p : P} (hg : Gl X x) (h : GloOk X.K CT X.mg x p) (hd : (x == ("__debug__" : Str)) = false := by decide) : PZ X CT U (.Name x pos) (eCst p) := by
  obtain ⟨u, v, h1, h2, h3⟩ := h
  exact weakE (pe_glob hg h1 h2 hd) fun σ H Q ⟨s, S, ρ, g, en, h⟩ => RG.here h g (RepP.mono (Ex.h0 _) h3)
end

/-! ### arguments -/
def aNil : FE (List W) := fun _ S => .ok [] S
def aCons (f : FE W) (r : FE (List W)) : FE (List W) := fun ρ S => (f ρ S).bind fun w S1 => (r ρ S1).bind fun ws S2 => .ok (w :: ws) S2
section
variable {X : Cx} {CT : Str → Addr} {U : WX}
theorem za_nil : PZA X CT U [] aNil := weakA pa_nil fun σ H Q ⟨s, S, ρ, g, en, h⟩ => RG.here h g rfl
theorem za_cons {e : Expr} {es : List Expr} {f : FE W} {r : FE (List W)} (ha : PZ X CT U e f) (hr : PZA X CT U es r) (hs : starEach (e :: es) X.env = (false, eval e X.env) :: starEach es X.env := by rfl) : PZA X CT U (e :: es) (aCons f r) :=
  weakA (pa_cons ha hr hs) fun σ H Q ⟨s, S, ρ, g, en, h⟩ => by
    refine ⟨s, S, ρ, g, en, RG.step h fun w S1 s1 H1 v x1 g1 r1 h1 => ?_⟩
    refine ⟨s1, S1, ρ, g1, en.mono x1, RG.step h1 fun ws S2 s2 H2 vs x2 g2 r2 h2 => ?_⟩
    exact RG.here h2 g2 ⟨v, vs, rfl, r1.mono x2, r2⟩
end

/-! ### operators -/
abbrev O2 := W → W → Store → RE W
def eBin (op : O2) (fa fb : FE W) : FE W := fun ρ S => (fa ρ S).bind fun a S1 => (fb ρ S1).bind fun b S2 => op a b S2
def eUn (op : W → Store → RE W) (fa : FE W) : FE W := fun ρ S => (fa ρ S).bind fun a S1 => op a S1
/-- an operator's reading is served -/
def OpZ (K : PySem.W.Frag) (CT : Str → Addr) (r : R2) (op : O2) : Prop := ∀ (s : Fs) (S : Store) (H : Hp) (a b : W) (x y : V) (Q : VK) (EX : Value → Option Addr → Hp → Prop),
  Gd K CT s S H → RepW K CT s a x → RepW K CT s b y → RG K CT (RepW K CT) s (op a b S) Q EX → r x y H Q
def UnZ (K : PySem.W.Frag) (CT : Str → Addr) (r : V → Hp → VK → Prop) (op : W → Store → RE W) : Prop := ∀ (s : Fs) (S : Store) (H : Hp) (a : W) (x : V) (Q : VK) (EX : Value → Option Addr → Hp → Prop),
  Gd K CT s S H → RepW K CT s a x → RG K CT (RepW K CT) s (op a S) Q EX → r x H Q
section
variable {X : Cx} {CT : Str → Addr} {U : WX} {a b c : Expr} {fa fb fc : FE W} {r r' : R2} {g g' : O2} {pos : Pos}
theorem bin_can (hz : OpZ X.K CT r g) {σ : L2.St} {H : Hp} {Q : VK} (h : canE X.K CT U (eBin g fa fb) σ H Q) : tOp r (canE X.K CT U fa) (canE X.K CT U fb) σ H Q := by
  obtain ⟨s, S, ρ, gd, en, h⟩ := h
  refine ⟨s, S, ρ, gd, en, RG.step h fun w S1 s1 H1 v x1 g1 r1 h1 => ?_⟩
  refine ⟨s1, S1, ρ, g1, en.mono x1, RG.step h1 fun ws S2 s2 H2 vs x2 g2 r2 h2 => ?_⟩
  exact hz s2 S2 H2 w ws v vs Q _ g2 (r1.mono x2) r2 h2
theorem pz_bin {op : Operator} (ho : OpR X (binaryOp op) r) (hz : OpZ X.K CT r g) (ha : PZ X CT U a fa) (hb : PZ X CT U b fb) : PZ X CT U (.BinOp a op b pos) (eBin g fa fb) :=
  weakE (pe_op ho ha hb) fun σ H Q h => bin_can hz h
theorem pz_cmp {op : CmpOp} (ho : OpR X (compareOp op) r) (hz : OpZ X.K CT r g) (ha : PZ X CT U a fa) (hb : PZ X CT U b fb) (hm : behindInMarks op b = false) : PZ X CT U (.Compare a [op] [b] pos) (eBin g fa fb) :=
  weakE (pe_cmpR ho ha hb hm) fun σ H Q h => bin_can hz h
theorem pz_un {op : UnaryOp} {ru : V → Hp → VK → Prop} {gu : W → Store → RE W} (ho : UnR X (unaryOp op) ru) (hz : UnZ X.K CT ru gu) (ha : PZ X CT U a fa) : PZ X CT U (.UnaryOp op a pos) (eUn gu fa) :=
  weakE (pe_un ho ha) fun σ H Q ⟨s, S, ρ, gd, en, h⟩ => ⟨s, S, ρ, gd, en, RG.step h fun w S1 s1 H1 v x1 g1 r1 h1 => hz s1 S1 H1 w v Q _ g1 r1 h1⟩

/-! ### tests -/
def asB : W → Store → RE Bool
  | .val (.bl b), S => .ok b S
  | _, _ => .bad
def tstB (f : FE W) : FE Bool := fun ρ S => (f ρ S).bind asB
theorem asB_ok {K : PySem.W.Frag} {s : Fs} {S : Store} {H : Hp} {w : W} {v : V} {Q : Bool → Hp → Prop} {EX : Value → Option Addr → Hp → Prop} (gd : Gd K CT s S H) (r : RepW K CT s w v) (h : RG K CT (fun _ a b => a = b) s (asB w S) Q EX) :
    ∃ k, v = .bl k ∧ Q k H := by
  cases w with
  | loc n => exact h.elim
  | val p =>
    cases p with
    | bl b => exact ⟨b, r, RG.here h gd rfl⟩
    | _ => exact h.elim
theorem tst_can {σ : L2.St} {H : Hp} {Q : Bool → Hp → Prop} (h : canT X.K CT U (tstB fa) σ H Q) : tTest (canE X.K CT U fa) σ H Q := by
  obtain ⟨s, S, ρ, gd, en, h⟩ := h
  exact ⟨s, S, ρ, gd, en, RG.step h fun w S1 s1 H1 v x1 g1 r1 h1 => asB_ok g1 r1 h1⟩
theorem zt_val (ha : PZ X CT U a fa) (he : ∀ whole, isTrue a X.env whole = (do let v ← whole; standAt a.pos; holding [v] (truthy v)) := by intro _; rfl) : PZT X CT U a (tstB fa) := weakT (pt_val ha he) fun σ H Q h => tst_can h
theorem zt_cmp {op : CmpOp} (ho : OpR X (compareOp op) r) (hz : OpZ X.K CT r g) (ha : PZ X CT U a fa) (hb : PZ X CT U b fb) (hm : behindInMarks op b = false) : PZT X CT U (.Compare a [op] [b] pos) (tstB (eBin g fa fb)) :=
  weakT (pt_cmpR ho ha hb hm) fun σ H Q h => by
    obtain ⟨s, S, ρ, gd, en, h⟩ := h
    exact bin_can hz ⟨s, S, ρ, gd, en, RG.step h fun w S1 s1 H1 v x1 g1 r1 h1 => asB_ok g1 r1 h1⟩
def tNotB (f : FE Bool) : FE Bool := fun ρ S => (f ρ S).bind fun b S1 => .ok (!b) S1
def tAndB (f u : FE Bool) : FE Bool := fun ρ S => (f ρ S).bind fun b S1 => if b = true then u ρ S1 else .ok false S1
def tOrB (f u : FE Bool) : FE Bool := fun ρ S => (f ρ S).bind fun b S1 => if b = true then .ok true S1 else u ρ S1
variable {ta tb : FE Bool} {rest : List Expr}
theorem zt_not (ha : PZT X CT U a ta) : PZT X CT U (.UnaryOp .Not a pos) (tNotB ta) := weakT (pt_not ha) fun σ H Q ⟨s, S, ρ, gd, en, h⟩ =>
  ⟨s, S, ρ, gd, en, RG.step h fun w S1 s1 H1 v x1 g1 r1 h1 => RG.here h1 g1 (by rw [r1])⟩
abbrev PZW (X : Cx) (CT : Str → Addr) (U : WX) (e : Expr) (f : FE Bool) : Prop := PW X e (canT X.K CT U f)
theorem zw_and1 (ha : PZT X CT U a ta) : PZW X CT U (.BoolOp .And [a] pos) ta := pw_and1 ha
theorem zw_or1 (ha : PZT X CT U a ta) : PZW X CT U (.BoolOp .Or [a] pos) ta := pw_or1 ha
theorem zw_and (ha : PZT X CT U a ta) (hb : PZW X CT U (.BoolOp .And (b :: rest) pos) tb) : PZW X CT U (.BoolOp .And (a :: b :: rest) pos) (tAndB ta tb) := weakW (pw_and ha hb) fun σ H Q ⟨s, S, ρ, gd, en, h⟩ =>
  ⟨s, S, ρ, gd, en, RG.step h fun w S1 s1 H1 v x1 g1 r1 h1 => by
    subst r1
    cases w with
    | true => exact ⟨s1, S1, ρ, g1, en.mono x1, h1⟩
    | false => exact RG.here h1 g1 rfl⟩
theorem zw_or (ha : PZT X CT U a ta) (hb : PZW X CT U (.BoolOp .Or (b :: rest) pos) tb) : PZW X CT U (.BoolOp .Or (a :: b :: rest) pos) (tOrB ta tb) := weakW (pw_or ha hb) fun σ H Q ⟨s, S, ρ, gd, en, h⟩ =>
  ⟨s, S, ρ, gd, en, RG.step h fun w S1 s1 H1 v x1 g1 r1 h1 => by
    subst r1
    cases w with
    | false => exact ⟨s1, S1, ρ, g1, en.mono x1, h1⟩
    | true => exact RG.here h1 g1 rfl⟩
theorem zt_bool (h : PZW X CT U a ta) : PZT X CT U a ta := h.pt
/-- a chain of two comparisons -/
def eChain (g g' : O2) (fa fb fc : FE W) : FE W := fun ρ S => (fa ρ S).bind fun a S1 => (fb ρ S1).bind fun b S2 => (g a b S2).bind fun k S3 => (asB k S3).bind fun k S4 => if k = true then (fc ρ S4).bind fun c S5 => g' b c S5 else .ok (.val (.bl false)) S4
theorem chain_can (hz : OpZ X.K CT r g) (hz' : OpZ X.K CT r' g') {σ : L2.St} {H : Hp} {Q : VK} (h : canE X.K CT U (eChain g g' fa fb fc) σ H Q) : tChain r r' (canE X.K CT U fa) (canE X.K CT U fb) (canE X.K CT U fc) σ H Q := by
  obtain ⟨s, S, ρ, gd, en, h⟩ := h
  refine ⟨s, S, ρ, gd, en, RG.step h fun w S1 s1 H1 v x1 g1 r1 h1 => ?_⟩
  refine ⟨s1, S1, ρ, g1, en.mono x1, RG.step h1 fun ws S2 s2 H2 vs x2 g2 r2 h2 => ?_⟩
  refine hz s2 S2 H2 w ws v vs _ _ g2 (r1.mono x2) r2 (RG.step h2 fun kw S3 s3 H3 kv x3 g3 r3 h3 => ?_)
  obtain ⟨k, e, q⟩ := asB_ok (Q := fun k H => if k = true then canE X.K CT U fc σ H fun w' H4 => r' vs w' H4 Q else Q (.bl false) H) g3 r3 (RG.step h3 fun k S4 s4 H4 k' x4 g4 r4 h4 => by
    subst r4
    cases k with
    | false => exact RG.here h4 g4 rfl
    | true =>
      refine ⟨s4, S4, ρ, g4, (((en.mono x1).mono x2).mono x3).mono x4, RG.step h4 fun c S5 s5 H5 cv x5 g5 r5 h5 => ?_⟩
      exact hz' s5 S5 H5 ws c vs cv Q _ g5 (((r2.mono x3).mono x4).mono x5) r5 h5)
  exact ⟨k, e, q⟩
theorem pz_chain {op op' : CmpOp} (ho : OpR X (compareOp op) r) (hz : OpZ X.K CT r g) (ho' : OpR X (compareOp op') r') (hz' : OpZ X.K CT r' g') (ha : PZ X CT U a fa) (hb : PZ X CT U b fb) (hc : PZ X CT U c fc)
    (hm : lastMarks [op, op'] [b, c] = false := by with_unfolding_all rfl) : PZ X CT U (.Compare a [op, op'] [b, c] pos) (eChain g g' fa fb fc) :=
  weakE (pe_chain ho ho' ha hb hc hm) fun σ H Q h => chain_can hz hz' h
theorem zt_chain {op op' : CmpOp} (ho : OpR X (compareOp op) r) (hz : OpZ X.K CT r g) (ho' : OpR X (compareOp op') r') (hz' : OpZ X.K CT r' g') (ha : PZ X CT U a fa) (hb : PZ X CT U b fb) (hc : PZ X CT U c fc)
    (hm : lastMarks [op, op'] [b, c] = false := by with_unfolding_all rfl) : PZT X CT U (.Compare a [op, op'] [b, c] pos) (tstB (eChain g g' fa fb fc)) :=
  weakT (pt_chain ho ho' ha hb hc hm) fun σ H Q h => by
    obtain ⟨s, S, ρ, gd, en, h⟩ := h
    exact chain_can hz hz' ⟨s, S, ρ, gd, en, RG.step h fun w S1 s1 H1 v x1 g1 r1 h1 => asB_ok g1 r1 h1⟩
/-! ### and, or, not as values of bools; x if t else y -/
def eAnd (fa fb : FE W) : FE W := fun ρ S => (fa ρ S).bind fun a S1 => (asB a S1).bind fun k S2 => if k = true then fb ρ S2 else .ok (.val (.bl false)) S2
def eOr (fa fb : FE W) : FE W := fun ρ S => (fa ρ S).bind fun a S1 => (asB a S1).bind fun k S2 => if k = true then .ok (.val (.bl true)) S2 else fb ρ S2
def eNot (fa : FE W) : FE W := fun ρ S => (fa ρ S).bind fun a S1 => (asB a S1).bind fun k S2 => .ok (.val (.bl (!k))) S2
def eIf (t : FE Bool) (fa fb : FE W) : FE W := fun ρ S => (t ρ S).bind fun k S1 => if k = true then fa ρ S1 else fb ρ S1
theorem pz_one {op : BoolOp} (ha : PZ X CT U a fa) : PZ X CT U (.BoolOp op [a] pos) fa := pe_one ha
theorem pz_and (ha : PZ X CT U a fa) (hb : PZ X CT U (.BoolOp .And (b :: rest) pos) fb) : PZ X CT U (.BoolOp .And (a :: b :: rest) pos) (eAnd fa fb) := weakE (pe_and ha hb) fun σ H Q ⟨s, S, ρ, gd, en, h⟩ =>
  ⟨s, S, ρ, gd, en, RG.step h fun w S1 s1 H1 v x1 g1 r1 h1 => asB_ok (Q := fun c H => if c = true then canE X.K CT U fb σ H Q else Q (.bl false) H) g1 r1 (RG.step h1 fun k S2 s2 H2 k' x2 g2 r2 h2 => by
    subst r2
    cases k with
    | true => exact ⟨s2, S2, ρ, g2, (en.mono x1).mono x2, h2⟩
    | false => exact RG.here h2 g2 rfl)⟩
theorem pz_or (ha : PZ X CT U a fa) (hb : PZ X CT U (.BoolOp .Or (b :: rest) pos) fb) : PZ X CT U (.BoolOp .Or (a :: b :: rest) pos) (eOr fa fb) := weakE (pe_or ha hb) fun σ H Q ⟨s, S, ρ, gd, en, h⟩ =>
  ⟨s, S, ρ, gd, en, RG.step h fun w S1 s1 H1 v x1 g1 r1 h1 => asB_ok (Q := fun c H => if c = true then Q (.bl true) H else canE X.K CT U fb σ H Q) g1 r1 (RG.step h1 fun k S2 s2 H2 k' x2 g2 r2 h2 => by
    subst r2
    cases k with
    | false => exact ⟨s2, S2, ρ, g2, (en.mono x1).mono x2, h2⟩
    | true => exact RG.here h2 g2 rfl)⟩
theorem pz_not (ha : PZ X CT U a fa) : PZ X CT U (.UnaryOp .Not a pos) (eNot fa) := weakE (pe_not ha) fun σ H Q ⟨s, S, ρ, gd, en, h⟩ =>
  ⟨s, S, ρ, gd, en, RG.step h fun w S1 s1 H1 v x1 g1 r1 h1 => asB_ok (Q := fun c H => Q (.bl (!c)) H) g1 r1 (RG.step h1 fun k S2 s2 H2 k' x2 g2 r2 h2 => by
    subst r2
    exact RG.here h2 g2 rfl)⟩
theorem pz_if (ht : PZT X CT U c ta) (ha : PZ X CT U a fa) (hb : PZ X CT U b fb) : PZ X CT U (.IfExp c a b pos) (eIf ta fa fb) := weakE (pe_ifExp ht ha hb) fun σ H Q ⟨s, S, ρ, gd, en, h⟩ =>
  ⟨s, S, ρ, gd, en, RG.step h fun k S1 s1 H1 v x1 g1 r1 h1 => by
    subst r1
    cases k with
    | true => exact ⟨s1, S1, ρ, g1, en.mono x1, h1⟩
    | false => exact ⟨s1, S1, ρ, g1, en.mono x1, h1⟩⟩
end
end Z
end
-- part Z2
section
set_option Elab.async false
set_option linter.all false
set_option maxRecDepth 100000
set_option autoImplicit false
namespace Z
open PySem PySem.Spec PyProof.Rows L2

/-! ### looking through the store -/
def valAll : List W → Option (List P)
  | [] => some []
  | .val p :: ws => (valAll ws).map (p :: ·)
  | .loc _ :: _ => none
/-- a list (made by the program) as data -/
def lstP (S : Store) : W → Option (List P)
  | .val (.lst ps) => some ps
  | .loc n => match S[n]? with
    | some (.lst ws) => valAll ws
    | some (.frz (.lst ps)) => some ps
    | _ => none
  | _ => none
/-- data, a list's content included -/
def pOf (S : Store) : W → Option P
  | .val p => some p
  | .loc n => match S[n]? with
    | some (.lst ws) => (valAll ws).map .lst
    | some (.frz p) => some p
    | _ => none
section
variable {K : PySem.W.Frag} {CT : Str → Addr} {s : Fs} {S : Store} {H : Hp}
theorem valAll_ok : ∀ {ws : List W} {ps : List P} {vs : List V}, valAll ws = some ps → RepWs K CT s ws vs → RepL K CT s.F ps vs
  | [], _, _, e, h => by cases e; exact h
  | .val p :: ws, _, _, e, ⟨v, vs', h1, h2, h3⟩ => by
    simp only [valAll, Option.map_eq_some_iff] at e
    obtain ⟨qs, e1, rfl⟩ := e
    exact ⟨v, vs', h1, h2, valAll_ok e1 h3⟩
  | .loc _ :: ws, _, _, e, h => by cases e
/-- data, at the heap as it is -/
def RepN (K : PySem.W.Frag) (CT : Str → Addr) (s : Fs) (H : Hp) (p : P) (v : V) : Prop :=
  RepP K CT s.F p v ∨ ∃ ps a vs, p = .lst ps ∧ v = .ref a ∧ H a = some (.lst vs) ∧ RepL K CT s.F ps vs
theorem pOf_ok (g : Gd K CT s S H) {w : W} {v : V} {p : P} (r : RepW K CT s w v) (e : pOf S w = some p) : RepN K CT s H p v := by
  cases w with
  | val q => cases e; exact .inl r
  | loc n =>
    obtain ⟨a, h1, rfl⟩ := r
    unfold pOf at e
    cases hc : S[n]? with
    | none => simp [hc] at e
    | some c =>
      have q := g.cells n c a hc h1
      cases c with
      | lst ws =>
        simp only [hc, Option.map_eq_some_iff] at e
        obtain ⟨ps, e1, rfl⟩ := e
        obtain ⟨_, _, vs, q3, q4⟩ := q
        exact .inr ⟨ps, a, vs, rfl, rfl, q3, valAll_ok e1 q4⟩
      | ins c ns ws => simp [hc] at e
      | frz p' => simp only [hc] at e; cases e; exact .inl q
theorem RepN.lst (g : Gd K CT s S H) {ps : List P} {v : V} (r : RepN K CT s H (.lst ps) v) : ∃ a vs, v = .ref a ∧ H a = some (.lst vs) ∧ RepL K CT s.F ps vs := by
  rcases r with ⟨a, vs, h1, h2, h3⟩ | ⟨qs, a, vs, e, h1, h2, h3⟩
  · exact ⟨a, vs, h1, g.exF _ _ h2, h3⟩
  · cases e; exact ⟨a, vs, h1, h2, h3⟩
theorem RepN.non_lst {p : P} {v : V} (r : RepN K CT s H p v) (h : ∀ ps, p ≠ .lst ps) : RepP K CT s.F p v := by
  rcases r with r | ⟨ps, _, _, e, _⟩
  · exact r
  · exact absurd e (h ps)
end

/-! ### whole numbers -/
def iOp (C : Int → Int → Bool) (g : Int → Int → P) : O2
  | .val (.int i), .val (.int j), S => if C i j = true then .ok (.val (g i j)) S else .bad
  | _, _, _ => .bad
theorem ints_of {K : PySem.W.Frag} {CT : Str → Addr} {C : Int → Int → Bool} {g : Int → Int → P} {a b : W} {S : Store} {s : Fs} {x y : V} {Q : VK} {EX : Value → Option Addr → Hp → Prop} (ra : RepW K CT s a x) (rb : RepW K CT s b y)
    (h : RG K CT (RepW K CT) s (iOp C g a b S) Q EX) : ∃ i j, x = .int i ∧ y = .int j ∧ C i j = true ∧ RG K CT (RepW K CT) s (.ok (.val (g i j)) S) Q EX := by
  unfold iOp at h
  split at h
  · rename_i i j
    by_cases c : C i j = true
    · rw [if_pos c] at h; exact ⟨i, j, ra, rb, c, h⟩
    · rw [if_neg c] at h; exact h.elim
  · exact h.elim
section
variable {K : PySem.W.Frag} {CT : Str → Addr}
theorem oz_int {C : Int → Int → Prop} {C' : Int → Int → Bool} {g : Int → Int → V} {g' : Int → Int → P} (hC : ∀ i j, C' i j = true → C i j) (hg : ∀ i j F, RepP K CT F (g' i j) (g i j)) : OpZ K CT (rI C g) (iOp C' g') := fun s S H a b x y Q EX gd ra rb h => by
  obtain ⟨i, j, h1, h2, c, h⟩ := ints_of ra rb h
  exact ⟨i, j, h1, h2, hC i j c, RG.here h gd (hg i j _)⟩
theorem oz_int0 {g : Int → Int → V} {g' : Int → Int → P} (hg : ∀ i j F, RepP K CT F (g' i j) (g i j)) : OpZ K CT (rI0 g) (iOp (fun _ _ => true) g') := fun s S H a b x y Q EX gd ra rb h => by
  obtain ⟨i, j, h1, h2, c, h⟩ := ints_of ra rb h
  exact ⟨i, j, h1, h2, RG.here h gd (hg i j _)⟩
end
abbrev subW : O2 := iOp (fun _ _ => true) fun i j => .int (i - j)
abbrev fdivW : O2 := iOp (fun _ j => decide (0 < j) && decide (j < 2 ^ 64)) fun i j => .int (i / j)
abbrev modW : O2 := iOp (fun _ j => decide (0 < j)) fun i j => .int (i % j)
abbrev powW : O2 := iOp (fun i j => decide (0 ≤ j) && decide (j ≤ 1000000) && decide (i.natAbs < 2 ^ 64)) fun i j => .int (i ^ j.toNat)
abbrev shlW : O2 := iOp (fun i j => decide (0 ≤ j) && decide (j ≤ 1000000) && decide (i.natAbs < 2 ^ 64)) fun i j => .int (i * 2 ^ j.toNat)
abbrev shrW : O2 := iOp (fun _ j => decide (0 ≤ j)) fun i j => .int (i / 2 ^ j.toNat)
abbrev bandW : O2 := iOp (fun _ _ => true) fun i j => .int (Builtin.bitAnd i j)
abbrev ltW : O2 := iOp (fun _ _ => true) fun i j => .bl (decide (i < j))
abbrev leW : O2 := iOp (fun _ _ => true) fun i j => .bl (decide (i ≤ j))
abbrev gtW : O2 := iOp (fun _ _ => true) fun i j => .bl (decide (j < i))
abbrev geW : O2 := iOp (fun _ _ => true) fun i j => .bl (decide (j ≤ i))
def negW : W → Store → RE W
  | .val (.int i), S => .ok (.val (.int (-i))) S
  | _, _ => .bad
section
variable {X : Cx} {CT : Str → Addr} {U : WX} {a b c : Expr} {fa fb fc : FE W} {pos : Pos}
theorem log2_64 {j : Int} (h : j.natAbs < 2 ^ 64) : j.natAbs.log2 < 9000 := Nat.lt_of_lt_of_le (PySem.Flt.log2_lt_of (by decide : 0 < 64) h) (by decide)
theorem pz_sub (ha : PZ X CT U a fa) (hb : PZ X CT U b fb) : PZ X CT U (.BinOp a .Sub b pos) (eBin subW fa fb) := pz_bin op_sub (oz_int0 fun _ _ _ => rfl) ha hb
theorem pz_fdiv (ha : PZ X CT U a fa) (hb : PZ X CT U b fb) : PZ X CT U (.BinOp a .FloorDiv b pos) (eBin fdivW fa fb) :=
  pz_bin op_fdivW (oz_int (fun i j h => by
    simp only [Bool.and_eq_true, decide_eq_true_eq] at h
    exact ⟨h.1, log2_64 (by omega)⟩) fun _ _ _ => rfl) ha hb
theorem pz_mod (ha : PZ X CT U a fa) (hb : PZ X CT U b fb) : PZ X CT U (.BinOp a .Mod b pos) (eBin modW fa fb) := pz_bin op_mod (oz_int (fun i j h => of_decide_eq_true h) fun _ _ _ => rfl) ha hb
theorem pz_pow (ha : PZ X CT U a fa) (hb : PZ X CT U b fb) : PZ X CT U (.BinOp a .Pow b pos) (eBin powW fa fb) :=
  pz_bin op_pow (oz_int (fun i j h => by simp only [Bool.and_eq_true, decide_eq_true_eq] at h; exact ⟨h.1.1, h.1.2, h.2⟩) fun _ _ _ => rfl) ha hb
theorem pz_shl (ha : PZ X CT U a fa) (hb : PZ X CT U b fb) : PZ X CT U (.BinOp a .LShift b pos) (eBin shlW fa fb) :=
  pz_bin op_shl (oz_int (fun i j h => by simp only [Bool.and_eq_true, decide_eq_true_eq] at h; exact ⟨h.1.1, h.1.2, h.2⟩) fun _ _ _ => rfl) ha hb
theorem pz_shr (ha : PZ X CT U a fa) (hb : PZ X CT U b fb) : PZ X CT U (.BinOp a .RShift b pos) (eBin shrW fa fb) := pz_bin op_shr (oz_int (fun i j h => of_decide_eq_true h) fun _ _ _ => rfl) ha hb
theorem pz_band (ha : PZ X CT U a fa) (hb : PZ X CT U b fb) : PZ X CT U (.BinOp a .BitAnd b pos) (eBin bandW fa fb) := pz_bin op_and (oz_int0 fun _ _ _ => rfl) ha hb
theorem oz_lt {K : PySem.W.Frag} : OpZ K CT (rI0 fun i j => .bl (decide (i < j))) ltW := oz_int0 fun _ _ _ => rfl
theorem oz_le {K : PySem.W.Frag} : OpZ K CT (rI0 fun i j => .bl (decide (i ≤ j))) leW := oz_int0 fun _ _ _ => rfl
theorem oz_gt {K : PySem.W.Frag} : OpZ K CT (rI0 fun i j => .bl (decide (j < i))) gtW := oz_int0 fun _ _ _ => rfl
theorem oz_ge {K : PySem.W.Frag} : OpZ K CT (rI0 fun i j => .bl (decide (j ≤ i))) geW := oz_int0 fun _ _ _ => rfl
theorem pz_neg (ha : PZ X CT U a fa) : PZ X CT U (.UnaryOp .USub a pos) (eUn negW fa) := pz_un un_neg (fun s S H a x Q EX gd ra h => by
  unfold negW at h
  split at h
  · rename_i i; exact ⟨i, ra, RG.here h gd rfl⟩
  · exact h.elim) ha
end

/-! ### + -/
def addW : O2 := fun a b S => match pOf S a, pOf S b with
  | some (.int i), some (.int j) => .ok (.val (.int (i + j))) S
  | some (.str x), some (.str y) => if x.length + y.length ≤ 1000000 then .ok (.val (.str (x ++ y))) S else .bad
  | some (.tup ps), some (.tup qs) => if ps.length + qs.length ≤ 100000 then .ok (.val (.tup (ps ++ qs))) S else .bad
  | some (.lst ps), some (.lst qs) => if ps.length + qs.length ≤ 100000 then .ok (.val (.lst (ps ++ qs))) S else .bad
  | _, _ => .bad
theorem OpR.or {X : Cx} {f : Value → Value → Sem Value} {r r' : R2} (h : OpR X f r) (h' : OpR X f r') : OpR X f (fun x y H Q => r x y H Q ∨ r' x y H Q) := by
  intro pins s σ H x y v u Q I rx ry q
  rcases q with q | q
  · exact h pins s σ H x y v u Q I rx ry q
  · exact h' pins s σ H x y v u Q I rx ry q
theorem sz5 {n : Nat} (h : n ≤ 100000) : n ≤ sizeLine := Nat.le_trans h (by decide)
theorem sz6 {n : Nat} (h : n ≤ 1000000) : n ≤ sizeLine := Nat.le_trans h (by decide)
theorem sz5' {n : Nat} (h : n < 100000) : n < sizeLine := Nat.lt_of_lt_of_le h (by decide)
section
variable {X : Cx} {CT : Str → Addr} {U : WX} {a b c : Expr} {fa fb fc : FE W} {pos : Pos}
theorem RG.new {K : PySem.W.Frag} {s : Fs} {S : Store} {H : Hp} {p : P} {Q : VK} {EX : Value → Option Addr → Hp → Prop} {o : HO} (h : RG K CT (RepW K CT) s (.ok (.val p) S) Q EX) (g : Gd K CT s S H) {q : Addr} (hq : H q = none)
    (r : ∀ F', Ex s.F F' → F' q = some o → RepP K CT F' p (.ref q)) : Q (.ref q) (upd H q o) := by
  obtain ⟨g', x⟩ := g.newF hq o
  exact h _ _ _ x g' (r _ x.f upd_same)

theorem RepL.nil_iff {K : PySem.W.Frag} {CT : Str → Addr} {F : Hp} {ps : List P} {vs : List V} (h : RepL K CT F ps vs) : vs = [] ↔ ps = [] := by
  have e := h.length
  constructor
  · intro q; subst q; exact List.length_eq_zero_iff.mp e.symm
  · intro q; subst q; exact h
theorem oz_add {K : PySem.W.Frag} : OpZ K CT (fun x y H Q => (rI0 (fun i j => .int (i + j)) x y H Q ∨ (∃ i j, x = .str i ∧ y = .str j ∧ i.length + j.length ≤ sizeLine ∧ Q (.str (i ++ j)) H)) ∨ (rCatA K x y H Q ∨ rCat x y H Q)) addW := by
  intro s S H a b x y Q EX gd ra rb h
  unfold addW at h
  split at h
  · rename_i i j ea eb
    have h1 := (pOf_ok gd ra ea).non_lst (fun _ e => nomatch e)
    have h2 := (pOf_ok gd rb eb).non_lst (fun _ e => nomatch e)
    exact .inl (.inl ⟨i, j, h1, h2, RG.here h gd rfl⟩)
  · rename_i i j ea eb
    have h1 := (pOf_ok gd ra ea).non_lst (fun _ e => nomatch e)
    have h2 := (pOf_ok gd rb eb).non_lst (fun _ e => nomatch e)
    split at h
    · rename_i c
      exact .inl (.inr ⟨i, j, h1, h2, sz6 c, RG.here h gd rfl⟩)
    · exact h.elim
  · rename_i ps qs ea eb
    obtain ⟨a1, vs, rfl, t1, l1⟩ := (pOf_ok gd ra ea).non_lst (fun _ e => nomatch e)
    obtain ⟨a2, us, rfl, t2, l2⟩ := (pOf_ok gd rb eb).non_lst (fun _ e => nomatch e)
    split at h
    · rename_i c
      refine .inr (.inl ⟨a1, a2, vs, us, rfl, rfl, gd.exF.st t1, gd.exF.st t2, by rw [l1.length, l2.length]; exact sz5 c, fun e => ?_, fun _ e => ?_, fun _ _ p hp => ?_⟩)
      · have q := l1.nil_iff.mp e
        subst q
        exact RG.here h gd (show RepP K CT s.F (.tup ([] ++ qs)) (.ref a2) from ⟨a2, us, rfl, t2, by simpa using l2⟩)
      · have q := l2.nil_iff.mp e
        subst q
        exact RG.here h gd (show RepP K CT s.F (.tup (ps ++ [])) (.ref a1) from ⟨a1, vs, rfl, t1, by simpa using l1⟩)
      · exact RG.new h gd hp fun F' e q => ⟨p, _, rfl, .inl (.inl q), (l1.mono e).append (l2.mono e)⟩
    · exact h.elim
  · rename_i ps qs ea eb
    obtain ⟨a1, vs, rfl, t1, l1⟩ := (pOf_ok gd ra ea).lst gd
    obtain ⟨a2, us, rfl, t2, l2⟩ := (pOf_ok gd rb eb).lst gd
    split at h
    · rename_i c
      exact .inr (.inr ⟨a1, a2, vs, us, rfl, rfl, t1, t2, by rw [l1.length, l2.length]; exact sz5 c, fun p hp => RG.new h gd hp fun F' e q => ⟨p, _, rfl, q, (l1.mono e).append (l2.mono e)⟩⟩)
    · exact h.elim
  · exact h.elim
theorem pz_add (ha : PZ X CT U a fa) (hb : PZ X CT U b fb) : PZ X CT U (.BinOp a .Add b pos) (eBin addW fa fb) := pz_bin ((op_add.or op_add_str).or (op_catA.or op_cat)) oz_add ha hb

/-! ### * -/
def mulOk (i j : Int) : Bool := decide (i.natAbs < 2 ^ 64) || decide (j.natAbs < 2 ^ 64)
def mulW : O2 := fun a b S => match pOf S a, pOf S b with
  | some (.int i), some (.int j) => if mulOk i j = true then .ok (.val (.int (i * j))) S else .bad
  | some (.lst ps), some (.int k) => if k < 100000 ∧ -100000 < k ∧ ps.length * k.toNat ≤ 100000 then .ok (.val (.lst (List.replicate k.toNat ps).flatten)) S else .bad
  | some (.tup ps), some (.int k) => if 2 ≤ k ∧ k ≤ 1000 ∧ 1 ≤ ps.length ∧ ps.length ≤ 1000 then .ok (.val (.tup (List.replicate k.toNat ps).flatten)) S else .bad
  | _, _ => .bad
theorem RepL.rep {K : PySem.W.Frag} {CT : Str → Addr} {F : Hp} {ps : List P} {vs : List V} (h : RepL K CT F ps vs) : ∀ n : Nat, RepL K CT F (List.replicate n ps).flatten (List.replicate n vs).flatten
  | 0 => rfl
  | n + 1 => by
    rw [List.replicate_succ, List.replicate_succ, List.flatten_cons, List.flatten_cons]
    exact h.append (RepL.rep h n)
theorem oz_mul {K : PySem.W.Frag} : OpZ K CT (fun x y H Q => rI CMul (fun i j => .int (i * j)) x y H Q ∨ (rRep x y H Q ∨ rRepT K x y H Q)) mulW := by
  intro s S H a b x y Q EX gd ra rb h
  unfold mulW at h
  split at h
  · rename_i i j ea eb
    have h1 := (pOf_ok gd ra ea).non_lst (fun _ e => nomatch e)
    have h2 := (pOf_ok gd rb eb).non_lst (fun _ e => nomatch e)
    split at h
    · rename_i c
      simp only [mulOk, Bool.or_eq_true, decide_eq_true_eq] at c
      exact .inl ⟨i, j, h1, h2, by unfold CMul; omega, RG.here h gd rfl⟩
    · exact h.elim
  · rename_i ps k ea eb
    obtain ⟨a1, vs, rfl, t1, l1⟩ := (pOf_ok gd ra ea).lst gd
    have h2 := (pOf_ok gd rb eb).non_lst (fun _ e => nomatch e)
    split at h
    · rename_i c
      exact .inr (.inl ⟨a1, k, vs, rfl, h2, t1, by omega, by omega, by rw [l1.length]; exact sz5 c.2.2, fun p hp => RG.new h gd hp fun F' e q => ⟨p, _, rfl, q, RepL.rep (l1.mono e) _⟩⟩)
    · exact h.elim
  · rename_i ps k ea eb
    obtain ⟨a1, vs, rfl, t1, l1⟩ := (pOf_ok gd ra ea).non_lst (fun _ e => nomatch e)
    have h2 := (pOf_ok gd rb eb).non_lst (fun _ e => nomatch e)
    split at h
    · rename_i c
      exact .inr (.inr ⟨a1, k, vs, rfl, h2, gd.exF.st t1, fun z => by
        have := l1.nil_iff.mp z
        subst this
        simp at c, c.1, c.2.1, by rw [l1.length]; exact c.2.2.2, fun p hp => RG.new h gd hp fun F' e q => ⟨p, _, rfl, .inl (.inl q), RepL.rep (l1.mono e) _⟩⟩)
    · exact h.elim
  · exact h.elim
theorem pz_mul (ha : PZ X CT U a fa) (hb : PZ X CT U b fb) : PZ X CT U (.BinOp a .Mult b pos) (eBin mulW fa fb) := pz_bin (op_mul.or (op_rep.or op_repT)) oz_mul ha hb

/-! ### == != is in -/
mutual
def toPy : P → Option PyData
  | .non => some .none
  | .bl b => some (.bool b)
  | .int i => some (.int i)
  | .str x => some (.str x)
  | .tup ps => (toPyL ps).map .tuple
  | .lst ps => (toPyL ps).map .list
  | _ => none
def toPyL : List P → Option (List PyData)
  | [] => some []
  | p :: ps => (toPy p).bind fun d => (toPyL ps).map (d :: ·)
end
mutual
theorem dp_of {K : PySem.W.Frag} {F : Hp} : ∀ {p : P} {v : V} {d : PyData}, RepP K CT F p v → toPy p = some d → Dp K F v d
  | .non, _, _, h, e => by rw [show _ = _ from h]; cases e; exact .non
  | .bl b, _, _, h, e => by rw [show _ = _ from h]; cases e; exact .bl b
  | .int b, _, _, h, e => by rw [show _ = _ from h]; cases e; exact .int b
  | .str b, _, _, h, e => by rw [show _ = _ from h]; cases e; exact .str b
  | .tup ps, _, _, ⟨a, vs, h1, h2, h3⟩, e => by
    simp only [toPy, Option.map_eq_some_iff] at e
    obtain ⟨ds, e1, rfl⟩ := e
    rw [h1]; exact .tup h2 (dpL_of h3 e1)
  | .lst ps, _, _, ⟨a, vs, h1, h2, h3⟩, e => by
    simp only [toPy, Option.map_eq_some_iff] at e
    obtain ⟨ds, e1, rfl⟩ := e
    rw [h1]; exact .lst (SqL.of h2) (dpL_of h3 e1)
  | .dct _ _, _, _, h, e => h.elim
  | .obj _ _ _, _, _, h, e => by simp [toPy] at e
  | .scr _, _, _, h, e => by simp [toPy] at e
theorem dpL_of {K : PySem.W.Frag} {F : Hp} : ∀ {ps : List P} {vs : List V} {ds : List PyData}, RepL K CT F ps vs → toPyL ps = some ds → DpAll K F vs ds
  | [], _, _, h, e => by rw [show _ = _ from h]; cases e; exact .nil
  | p :: ps, _, _, ⟨v, vs', h1, h2, h3⟩, e => by
    simp only [toPyL, Option.bind_eq_some_iff, Option.map_eq_some_iff] at e
    obtain ⟨d, e1, ds, e2, rfl⟩ := e
    rw [h1]; exact .cons (dp_of h2 e1) (dpL_of h3 e2)
end
theorem dp_now {K : PySem.W.Frag} {s : Fs} {S : Store} {H : Hp} {p : P} {v : V} {d : PyData} (g : Gd K CT s S H) (r : RepN K CT s H p v) (e : toPy p = some d) : Dp K H v d := by
  rcases r with r | ⟨ps, a, vs, rfl, rfl, h1, h2⟩
  · exact dp_of (r.mono g.exF) e
  · simp only [toPy, Option.map_eq_some_iff] at e
    obtain ⟨ds, e1, rfl⟩ := e
    exact .lst (SqL.of h1) (dpL_of (h2.mono g.exF) e1)
/-- == of data; none: no answer -/
def eqP (p q : P) : Option Bool := match p, q with
  | .int i, .int j => some (decide (i = j))
  | .str x, .str y => some (decide (x = y))
  | .bl b, .bl c => some (decide (b = c))
  | .int _, .str _ => some false
  | .str _, .int _ => some false
  | .non, .int _ => some false
  | .int _, .non => some false
  | .non, .str _ => some false
  | .str _, .non => some false
  | .bl _, .str _ => some false
  | .str _, .bl _ => some false
  | _, _ => match toPy p, toPy q with
    | some d, some e => if SeqAt.shaped d = true ∧ SeqAt.shaped e = true then some (PyData.eqv d e) else none
    | _, _ => none
def eqW (neg : Bool) : O2 := fun a b S => match pOf S a, pOf S b with
  | some p, some q => match eqP p q with
    | some k => .ok (.val (.bl (if neg = true then !k else k))) S
    | none => .bad
  | _, _ => .bad
theorem eqP_ok {K : PySem.W.Frag} {s : Fs} {S : Store} {H : Hp} {p q : P} {x y : V} {k : Bool} (g : Gd K CT s S H) (rp : RepN K CT s H p x) (rq : RepN K CT s H q y) (e : eqP p q = some k) :
    (scal x y = true ∧ k = decide (x = y)) ∨ ∃ d e, Dp K H x d ∧ Dp K H y e ∧ SeqAt.shaped d = true ∧ SeqAt.shaped e = true ∧ k = PyData.eqv d e := by
  have deep : (match toPy p, toPy q with
    | some d, some e => if SeqAt.shaped d = true ∧ SeqAt.shaped e = true then some (PyData.eqv d e) else none
    | _, _ => none) = some k → ∃ d e, Dp K H x d ∧ Dp K H y e ∧ SeqAt.shaped d = true ∧ SeqAt.shaped e = true ∧ k = PyData.eqv d e := by
    intro h
    cases ed : toPy p with
    | none => rw [ed] at h; cases h
    | some d =>
      cases ee : toPy q with
      | none => rw [ed, ee] at h; cases h
      | some d' =>
        rw [ed, ee] at h
        simp only at h
        split at h
        · rename_i c
          cases h
          exact ⟨d, d', dp_now g rp ed, dp_now g rq ee, c.1, c.2, rfl⟩
        · cases h
  have fl : ∀ {p : P} {x : V}, RepN K CT s H p x → (∀ ps, p ≠ .lst ps) → RepP K CT s.F p x := fun r h => r.non_lst h
  unfold eqP at e
  split at e
  all_goals first
    | exact .inr (deep e)
    | (have h1 := fl rp (fun _ z => nomatch z)
       have h2 := fl rq (fun _ z => nomatch z)
       have h1' := show _ = _ from h1
       have h2' := show _ = _ from h2
       subst h1' h2'
       cases e
       refine .inl ⟨rfl, ?_⟩
       simp)
theorem pz_eqR {neg : Bool} {op : CmpOp} (hz : OpR X (compareOp op) (fun x y H Q => (scal x y = true ∧ Q (.bl (if neg = true then !decide (x = y) else decide (x = y))) H) ∨ (∃ d e, Dp X.K H x d ∧ Dp X.K H y e ∧ SeqAt.shaped d = true ∧ SeqAt.shaped e = true ∧ Q (.bl (if neg = true then !PyData.eqv d e else PyData.eqv d e)) H))) : ∃ r, OpR X (compareOp op) r ∧ OpZ X.K CT r (eqW neg) := by
  refine ⟨_, hz, fun s S H a b x y Q EX gd ra rb h => ?_⟩
  unfold eqW at h
  split at h
  · rename_i p q ea eb
    split at h
    · rename_i k ek
      rcases eqP_ok gd (pOf_ok gd ra ea) (pOf_ok gd rb eb) ek with ⟨h1, rfl⟩ | ⟨d, e, h1, h2, h3, h4, rfl⟩
      · exact .inl ⟨h1, RG.here h gd rfl⟩
      · exact .inr ⟨d, e, h1, h2, h3, h4, RG.here h gd rfl⟩
    · exact h.elim
  · exact h.elim
theorem or_eq (hu : X.A.units + 64 < cLine) : ∃ r, OpR X (compareOp .Eq) r ∧ OpZ X.K CT r (eqW false) := pz_eqR (neg := false) (OpR.or op_eq (op_eqD hu))
theorem or_ne (hu : X.A.units + 64 < cLine) : ∃ r, OpR X (compareOp .NotEq) r ∧ OpZ X.K CT r (eqW true) := pz_eqR (neg := true) (OpR.or op_ne (op_neD hu))
theorem pz_eq (hu : X.A.units + 64 < cLine) (ha : PZ X CT U a fa) (hb : PZ X CT U b fb) (hm : behindInMarks .Eq b = false := by first | exact nomark _ | rfl) : PZ X CT U (.Compare a [.Eq] [b] pos) (eBin (eqW false) fa fb) := by
  obtain ⟨r, h1, h2⟩ := or_eq (CT := CT) hu
  exact pz_cmp h1 h2 ha hb hm
theorem zt_eq (hu : X.A.units + 64 < cLine) (ha : PZ X CT U a fa) (hb : PZ X CT U b fb) (hm : behindInMarks .Eq b = false := by first | exact nomark _ | rfl) : PZT X CT U (.Compare a [.Eq] [b] pos) (tstB (eBin (eqW false) fa fb)) := by
  obtain ⟨r, h1, h2⟩ := or_eq (CT := CT) hu
  exact zt_cmp h1 h2 ha hb hm
theorem pz_ne (hu : X.A.units + 64 < cLine) (ha : PZ X CT U a fa) (hb : PZ X CT U b fb) (hm : behindInMarks .NotEq b = false := by first | exact nomark _ | rfl) : PZ X CT U (.Compare a [.NotEq] [b] pos) (eBin (eqW true) fa fb) := by
  obtain ⟨r, h1, h2⟩ := or_ne (CT := CT) hu
  exact pz_cmp h1 h2 ha hb hm
theorem zt_ne (hu : X.A.units + 64 < cLine) (ha : PZ X CT U a fa) (hb : PZ X CT U b fb) (hm : behindInMarks .NotEq b = false := by first | exact nomark _ | rfl) : PZT X CT U (.Compare a [.NotEq] [b] pos) (tstB (eBin (eqW true) fa fb)) := by
  obtain ⟨r, h1, h2⟩ := or_ne (CT := CT) hu
  exact zt_cmp h1 h2 ha hb hm
def isNoneW : W → Bool
  | .val .non => true
  | _ => false
def isBlW (k : Bool) : W → Bool
  | .val (.bl j) => j == k
  | _ => false
def isW (neg : Bool) : O2 := fun a b S => match b with
  | .val .non => .ok (.val (.bl (if neg = true then !isNoneW a else isNoneW a))) S
  | .val (.bl k) => .ok (.val (.bl (if neg = true then !isBlW k a else isBlW k a))) S
  | _ => .bad
theorem isBl_ok {K : PySem.W.Frag} {s : Fs} {k : Bool} {w : W} {v : V} (r : RepW K CT s w v) : decide (v = V.bl k) = isBlW k w := by
  cases w with
  | loc n => obtain ⟨a, _, rfl⟩ := r; simp [isBlW]
  | val p =>
    cases p with
    | non => rw [show v = _ from r]; simp [isBlW]
    | bl b => rw [show v = _ from r]; cases b <;> cases k <;> simp [isBlW]
    | int b => rw [show v = _ from r]; simp [isBlW]
    | str b => rw [show v = _ from r]; simp [isBlW]
    | tup ps => obtain ⟨a, vs, rfl, _⟩ := r; simp [isBlW]
    | lst ps => obtain ⟨a, vs, rfl, _⟩ := r; simp [isBlW]
    | dct _ _ => exact r.elim
    | obj _ _ _ => obtain ⟨a, dx, vs, rfl, _⟩ := r; simp [isBlW]
    | scr _ => obtain ⟨a, rfl, _⟩ := r; simp [isBlW]
theorem isNone_ok {K : PySem.W.Frag} {s : Fs} {w : W} {v : V} (r : RepW K CT s w v) : decide (v = V.non) = isNoneW w := by
  cases w with
  | loc n => obtain ⟨a, _, rfl⟩ := r; simp [isNoneW]
  | val p =>
    cases p with
    | non => rw [show v = _ from r]; simp [isNoneW]
    | bl b => rw [show v = _ from r]; simp [isNoneW]
    | int b => rw [show v = _ from r]; simp [isNoneW]
    | str b => rw [show v = _ from r]; simp [isNoneW]
    | tup ps => obtain ⟨a, vs, rfl, _⟩ := r; simp [isNoneW]
    | lst ps => obtain ⟨a, vs, rfl, _⟩ := r; simp [isNoneW]
    | dct _ _ => exact r.elim
    | obj _ _ _ => obtain ⟨a, dx, vs, rfl, _⟩ := r; simp [isNoneW]
    | scr _ => obtain ⟨a, rfl, _⟩ := r; simp [isNoneW]
def rIsZ : R2 := fun x y H Q => (y = .non ∨ ∃ k, y = .bl k) ∧ Q (.bl (decide (x = y))) H
def rIsNotZ : R2 := fun x y H Q => (y = .non ∨ ∃ k, y = .bl k) ∧ Q (.bl (!decide (x = y))) H
theorem oz_is {K : PySem.W.Frag} : OpZ K CT rIsZ (isW false) := fun s S H a b x y Q EX gd ra rb h => by
  unfold isW at h
  split at h
  · refine ⟨.inl rb, ?_⟩
    rw [show y = _ from rb, isNone_ok ra]
    exact RG.here h gd rfl
  · refine ⟨.inr ⟨_, rb⟩, ?_⟩
    rw [show y = _ from rb, isBl_ok ra]
    exact RG.here h gd rfl
  · exact h.elim
theorem oz_isnot {K : PySem.W.Frag} : OpZ K CT rIsNotZ (isW true) := fun s S H a b x y Q EX gd ra rb h => by
  unfold isW at h
  split at h
  · refine ⟨.inl rb, ?_⟩
    rw [show y = _ from rb, isNone_ok ra]
    exact RG.here h gd rfl
  · refine ⟨.inr ⟨_, rb⟩, ?_⟩
    rw [show y = _ from rb, isBl_ok ra]
    exact RG.here h gd rfl
  · exact h.elim
theorem is_bool_gen {M : Model} {A : Around} {E : Value → Shared → Prop} {s : Shared} {Q : Value → Shared → Prop} {v : Value} {k : Bool} (hv : ∀ i, v ≠ .builtin i) (h : Q (.bool (v == .bool k)) s) : wpAny M A (compareOp .Is v (.bool k)) Q E s := by
  cases v <;> first | exact absurd rfl (hv _) | exact wpAny_pure h
theorem isnot_bool_gen {M : Model} {A : Around} {E : Value → Shared → Prop} {s : Shared} {Q : Value → Shared → Prop} {v : Value} {k : Bool} (hv : ∀ i, v ≠ .builtin i) (h : Q (.bool (!(v == .bool k))) s) : wpAny M A (compareOp .IsNot v (.bool k)) Q E s := by
  cases v <;> first | exact absurd rfl (hv _) | exact wpAny_pure h
section
variable {X : Cx}
theorem op_isZ : OpR X (compareOp .Is) rIsZ := by
  intro pins s σ H x y v u Q I rx ry h
  obtain ⟨rfl | ⟨k, rfl⟩, q⟩ := h
  · exact op_isN pins s σ H x .non v u Q I rx ry ⟨rfl, q⟩
  · cases ry
    refine is_bool_gen (fun i e => by subst e; cases x <;> first | (cases rx; done) | (obtain ⟨t, h⟩ := rx; cases h; done)) (fin_bl I q ?_)
    cases x <;> first
      | (cases rx; rfl)
      | (obtain ⟨t, rfl⟩ := rx; rfl)
      | (cases rx; rename_i b; cases b <;> cases k <;> rfl)
theorem op_isnotZ : OpR X (compareOp .IsNot) rIsNotZ := by
  intro pins s σ H x y v u Q I rx ry h
  obtain ⟨rfl | ⟨k, rfl⟩, q⟩ := h
  · exact op_notN pins s σ H x .non v u Q I rx ry ⟨rfl, q⟩
  · cases ry
    refine isnot_bool_gen (fun i e => by subst e; cases x <;> first | (cases rx; done) | (obtain ⟨t, h⟩ := rx; cases h; done)) (fin_bl I q ?_)
    cases x <;> first
      | (cases rx; rfl)
      | (obtain ⟨t, rfl⟩ := rx; rfl)
      | (cases rx; rename_i b; cases b <;> cases k <;> rfl)
end

/-! ### in -/
def flatP : P → Bool
  | .non => true | .bl _ => true | .int _ => true | .str _ => true
  | _ => false
def eqF : P → P → Bool
  | .non, .non => true
  | .bl a, .bl b => a == b
  | .bl a, .int b => (if a then 1 else 0) == b
  | .int a, .bl b => a == (if b then 1 else 0)
  | .int a, .int b => a == b
  | .str a, .str b => a == b
  | _, _ => false
theorem eqF_ok {K : PySem.W.Frag} {F : Hp} {p q : P} {x y : V} (h1 : flatP p = true) (h2 : flatP q = true) (r1 : RepP K CT F p x) (r2 : RepP K CT F q y) : eqV x y = eqF p q := by
  cases p <;> first | (simp [flatP] at h1; done) | (cases q <;> first | (simp [flatP] at h2; done) | (rw [show x = _ from r1, show y = _ from r2]; rfl))
theorem flat_ok {K : PySem.W.Frag} {F : Hp} {p : P} {x : V} (h1 : flatP p = true) (r1 : RepP K CT F p x) : flatV x = true := by
  cases p <;> first | (simp [flatP] at h1; done) | (rw [show x = _ from r1]; rfl)
theorem flats_ok {K : PySem.W.Frag} {F : Hp} : ∀ {ps : List P} {vs : List V}, ps.all flatP = true → RepL K CT F ps vs → vs.all flatV = true
  | [], _, _, h => by rw [show _ = _ from h]; rfl
  | p :: ps, _, e, ⟨v, vs', h1, h2, h3⟩ => by
    simp only [List.all_cons, Bool.and_eq_true] at e
    subst h1
    simp only [List.all_cons, Bool.and_eq_true]
    exact ⟨flat_ok e.1 h2, flats_ok e.2 h3⟩
theorem inF_ok {K : PySem.W.Frag} {F : Hp} {p : P} {x : V} (hp : flatP p = true) (rp : RepP K CT F p x) : ∀ {ps : List P} {vs : List V}, ps.all flatP = true → RepL K CT F ps vs → inV x vs = ps.any (fun q => eqF q p)
  | [], _, _, h => by rw [show _ = _ from h]; rfl
  | q :: ps, _, e, ⟨v, vs', h1, h2, h3⟩ => by
    simp only [List.all_cons, Bool.and_eq_true] at e
    subst h1
    have ih := inF_ok hp rp e.2 h3
    unfold inV at ih ⊢
    rw [List.any_cons, List.any_cons, ih, eqF_ok e.1 hp h2 rp]
/-- in a list, a tuple, a text -/
def inP (p q : P) : Option Bool := match q with
  | .lst ps => if flatP p && ps.all flatP then some (ps.any fun q => eqF q p) else none
  | .tup ps => if flatP p && ps.all flatP then some (ps.any fun q => eqF q p) else none
  | .str z => match p with
    | .str x => some (!(Builtin.Str.occurrences z x 0 z.length 1).isEmpty)
    | _ => none
  | _ => none
def inW (neg : Bool) : O2 := fun a b S => match pOf S a, pOf S b with
  | some p, some q => match inP p q with
    | some k => .ok (.val (.bl (if neg = true then !k else k))) S
    | none => .bad
  | _, _ => .bad
theorem oz_in {K : PySem.W.Frag} {neg : Bool} : OpZ K CT (fun x y H Q => rIn K neg x y H Q ∨ ∃ i j, x = .str i ∧ y = .str j ∧ Q (.bl (if neg = true then !(!(Builtin.Str.occurrences j i 0 j.length 1).isEmpty) else !(Builtin.Str.occurrences j i 0 j.length 1).isEmpty)) H) (inW neg) := fun s S H a b x y Q EX gd ra rb h => by
  unfold inW at h
  split at h
  · rename_i p q ea eb
    have rp := pOf_ok gd ra ea
    have rq := pOf_ok gd rb eb
    split at h
    · rename_i k ek
      unfold inP at ek
      split at ek
      · rename_i ps
        split at ek
        · rename_i c
          cases ek
          simp only [Bool.and_eq_true] at c
          have rp' := rp.non_lst (fun _ z => by subst z; simp [flatP] at c)
          obtain ⟨a, vs, rfl, h1, h2⟩ := rq.lst gd
          refine .inl ⟨a, vs, rfl, .inl (SqL.of h1), flat_ok c.1 rp', flats_ok c.2 h2, ?_⟩
          rw [inF_ok c.1 rp' c.2 h2]
          exact RG.here h gd (by cases neg <;> rfl)
        · cases ek
      · rename_i ps
        split at ek
        · rename_i c
          cases ek
          simp only [Bool.and_eq_true] at c
          have rp' := rp.non_lst (fun _ z => by subst z; simp [flatP] at c)
          obtain ⟨a, vs, rfl, h1, h2⟩ := rq.non_lst (fun _ z => nomatch z)
          refine .inl ⟨a, vs, rfl, .inr (gd.exF.st h1), flat_ok c.1 rp', flats_ok c.2 h2, ?_⟩
          rw [inF_ok c.1 rp' c.2 h2]
          exact RG.here h gd (by cases neg <;> rfl)
        · cases ek
      · rename_i z
        split at ek
        · rename_i z'
          cases ek
          have h1 := rp.non_lst (fun _ z => nomatch z)
          have h2 := rq.non_lst (fun _ z => nomatch z)
          exact .inr ⟨_, _, h1, h2, RG.here h gd (by cases neg <;> rfl)⟩
        · cases ek
      · cases ek
    · exact h.elim
  · exact h.elim
theorem or_in : OpR X (compareOp .In) (fun x y H Q => rIn X.K false x y H Q ∨ ∃ i j, x = .str i ∧ y = .str j ∧ Q (.bl (if false = true then !(!(Builtin.Str.occurrences j i 0 j.length 1).isEmpty) else !(Builtin.Str.occurrences j i 0 j.length 1).isEmpty)) H) := OpR.or op_in_seq op_in_str
theorem or_notin : OpR X (compareOp .NotIn) (fun x y H Q => rIn X.K true x y H Q ∨ ∃ i j, x = .str i ∧ y = .str j ∧ Q (.bl (if true = true then !(!(Builtin.Str.occurrences j i 0 j.length 1).isEmpty) else !(Builtin.Str.occurrences j i 0 j.length 1).isEmpty)) H) := OpR.or op_notIn_seq op_notIn_str
end
end Z
end
-- part Z3
section
set_option Elab.async false
set_option linter.all false
set_option maxRecDepth 100000
set_option autoImplicit false
namespace Z
open PySem PySem.Spec PyProof.Rows L2

/-! ### freezing -/
section
variable {K : PySem.W.Frag} {CT : Str → Addr} {s : Fs} {S : Store} {H : Hp}
theorem Gd.freeze (g : Gd K CT s S H) {n : Nat} {a : Addr} {c : Cell} {o : HO} {p : P} (h1 : S[n]? = some c) (hl : live c) (h2 : s.m[n]? = some a) (hF : s.F a = none) (hG : s.G a = none) (hH : H a = some o)
    (r : ∀ F', Ex s.F F' → F' a = some o → RepP K CT F' p (.ref a)) : Gd K CT { s with F := upd s.F a o } (S.set n (.frz p)) H ∧ Ext s { s with F := upd s.F a o } := by
  have x : Ext s { s with F := upd s.F a o } := ⟨rfl, Ex.new hF, fun _ _ h => h, fun b h1 h2 => by
    have : b ≠ a := fun e => h2 (by rw [e]; exact hG)
    show upd s.F a o b = none
    rw [upd_ne this]; exact h1⟩
  have nlt := (List.getElem?_eq_some_iff.mp h1).1
  have oth : ∀ (n' : Nat) (c' : Cell) (a' : Addr), S[n']? = some c' → s.m[n']? = some a' → live c' → n ≠ n' → a' ≠ a := fun n' c' a' q1 q2 l ne e => by
    subst e; exact ne (g.inj n n' c c' a' h1 q1 hl l h2 q2)
  refine ⟨⟨fun b u e => ?_, g.exG, by rw [List.length_set]; exact g.len, fun n' d b q1 q2 => ?_, fun n1 n2 d1 d2 b q1 q2 l1 l2 e1 e2 => ?_⟩, x⟩
  · by_cases q : b = a
    · subst q
      have e' : upd s.F b o b = some u := e
      rw [upd_same] at e'; cases e'; exact hH
    · have e' : upd s.F a o b = some u := e
      rw [upd_ne q] at e'; exact g.exF b u e'
  · rw [List.getElem?_set] at q1
    by_cases e : n = n'
    · subst e
      rw [if_pos rfl, if_pos nlt] at q1
      cases q1
      have q2' : s.m[n]? = some b := q2
      rw [h2] at q2'; cases q2'
      exact r _ x.f upd_same
    · rw [if_neg e] at q1
      have q := g.cells n' d b q1 q2
      have ne : live d → b ≠ a := fun l => oth n' d b q1 q2 l e
      cases d with
      | lst ws => obtain ⟨r1, r2, vs, r3, r4⟩ := q; exact ⟨by show upd s.F a o b = none; rw [upd_ne (ne trivial)]; exact r1, r2, vs, r3, r4.mono x⟩
      | ins c ns ws => obtain ⟨r1, r2, dx, vs, r3, ql, r4⟩ := q; exact ⟨by show upd s.F a o b = none; rw [upd_ne (ne trivial)]; exact r1, r2, dx, vs, r3, ql, r4.mono x⟩
      | frz p => exact RepP.mono x.f q
  · have back : ∀ (k : Nat) (d : Cell), (S.set n (Cell.frz p))[k]? = some d → live d → S[k]? = some d := fun k d q l => by
      rw [List.getElem?_set] at q
      by_cases e : n = k
      · subst e
        rw [if_pos rfl, if_pos nlt] at q
        cases q; exact l.elim
      · rw [if_neg e] at q; exact q
    exact g.inj n1 n2 d1 d2 b (back _ _ q1 l1) (back _ _ q2 l2) l1 l2 e1 e2
end
def frz1 (S : Store) : W → Option (P × Store)
  | .val p => some (p, S)
  | .loc n => match S[n]? with
    | some (.lst ws) => (valAll ws).map fun ps => (.lst ps, S.set n (.frz (.lst ps)))
    | some (.frz p) => some (p, S)
    | _ => none
def frzs1 (S : Store) : List W → Option (List P × Store)
  | [] => some ([], S)
  | w :: ws => (frz1 S w).bind fun r => (frzs1 r.2 ws).map fun q => (r.1 :: q.1, q.2)
/-- deep: an instance with its lists -/
def frz (S : Store) : W → Option (P × Store)
  | .loc n => match S[n]? with
    | some (.ins c ns ws) => (frzs1 S ws).bind fun r => match r.2[n]? with
      | some (.ins _ _ _) => some (.obj c ns r.1, r.2.set n (.frz (.obj c ns r.1)))
      | _ => none
    | _ => frz1 S (.loc n)
  | w => frz1 S w
def frzs (S : Store) : List W → Option (List P × Store)
  | [] => some ([], S)
  | w :: ws => (frz S w).bind fun r => (frzs r.2 ws).map fun q => (r.1 :: q.1, q.2)
section
variable {K : PySem.W.Frag} {CT : Str → Addr} {s : Fs} {S S' : Store} {H : Hp}
theorem frz1_ok (g : Gd K CT s S H) {w : W} {v : V} {p : P} (r : RepW K CT s w v) (e : frz1 S w = some (p, S')) : ∃ s', Ext s s' ∧ Gd K CT s' S' H ∧ RepP K CT s'.F p v := by
  cases w with
  | val q => cases e; exact ⟨s, Ext.refl s, g, r⟩
  | loc n =>
    obtain ⟨a, h1, rfl⟩ := r
    unfold frz1 at e
    cases hc : S[n]? with
    | none => simp [hc] at e
    | some c =>
      have q := g.cells n c a hc h1
      cases c with
      | lst ws =>
        simp only [hc, Option.map_eq_some_iff] at e
        obtain ⟨ps, e1, e2⟩ := e
        cases e2
        obtain ⟨q1, q2, vs, q3, q4⟩ := q
        have rr : ∀ F', Ex s.F F' → F' a = some (.lst vs) → RepP K CT F' (.lst ps) (.ref a) := fun F' e f => ⟨a, vs, rfl, f, (valAll_ok e1 q4).mono e⟩
        obtain ⟨g', x⟩ := g.freeze hc trivial h1 q1 q2 q3 rr
        exact ⟨_, x, g', rr _ x.f upd_same⟩
      | ins c ns ws => simp [hc] at e
      | frz p' => simp only [hc] at e; cases e; exact ⟨s, Ext.refl s, g, q⟩
theorem frzs1_ok {ws : List W} : ∀ {vs : List V} {ps : List P} {s : Fs} {S : Store}, Gd K CT s S H → RepWs K CT s ws vs → frzs1 S ws = some (ps, S') → ∃ s', Ext s s' ∧ Gd K CT s' S' H ∧ RepL K CT s'.F ps vs := by
  induction ws with
  | nil => intro vs ps s S g r e; cases e; exact ⟨s, Ext.refl s, g, r⟩
  | cons w ws ih =>
    intro vs ps s S g r e
    obtain ⟨v, vs', h1, h2, h3⟩ := r
    simp only [frzs1, Option.bind_eq_some_iff, Option.map_eq_some_iff] at e
    obtain ⟨⟨p, S1⟩, e1, ⟨ps, S2⟩, e2, e3⟩ := e
    cases e3
    obtain ⟨s1, x1, g1, r1⟩ := frz1_ok g h2 e1
    obtain ⟨s2, x2, g2, r2⟩ := ih g1 (h3.mono x1) e2
    exact ⟨s2, x1.trans x2, g2, ⟨v, vs', h1, r1.mono x2.f, r2⟩⟩
theorem frz_ok (g : Gd K CT s S H) {w : W} {v : V} {p : P} (r : RepW K CT s w v) (e : frz S w = some (p, S')) : ∃ s', Ext s s' ∧ Gd K CT s' S' H ∧ RepP K CT s'.F p v := by
  cases w with
  | val q => exact frz1_ok g r e
  | loc n =>
    unfold frz at e
    cases hc : S[n]? with
    | none => simp only [hc] at e; exact frz1_ok g r e
    | some c0 =>
      cases c0 with
      | lst ws => simp only [hc] at e; exact frz1_ok g r e
      | frz p' => simp only [hc] at e; exact frz1_ok g r e
      | ins c ns ws =>
        simp only [hc] at e
        obtain ⟨a, h1, rfl⟩ := r
        obtain ⟨q1, q2, dx, vs, q3, ql, q4⟩ := g.cells n _ a hc h1
        simp only [Option.bind_eq_some_iff] at e
        obtain ⟨⟨ps, S1⟩, e1, e2⟩ := e
        obtain ⟨s1, x1, g1, r1⟩ := frzs1_ok g q4 e1
        cases hc2 : S1[n]? with
        | none => simp [hc2] at e2
        | some c2 =>
          cases c2 with
          | lst ws => simp [hc2] at e2
          | frz ws => simp [hc2] at e2
          | ins c2 ns2 ws2 =>
            simp only [hc2] at e2
            cases e2
            have h1' := x1.m n a h1
            obtain ⟨p1, p2, _, _, _, _⟩ := g1.cells n _ a hc2 h1'
            have l1 := r1.length
            have l2 := q4.length
            have rr : ∀ F', Ex s1.F F' → F' a = some (.ins (CT c) dx (ns.zip vs)) → RepP K CT F' (.obj c ns ps) (.ref a) := fun F' e f => ⟨a, dx, vs, rfl, f, by omega, r1.mono e⟩
            obtain ⟨g', x⟩ := g1.freeze hc2 trivial h1' p1 p2 q3 rr
            exact ⟨_, x1.trans x, g', rr _ x.f upd_same⟩
theorem frzs_ok {ws : List W} : ∀ {vs : List V} {ps : List P} {s : Fs} {S : Store}, Gd K CT s S H → RepWs K CT s ws vs → frzs S ws = some (ps, S') → ∃ s', Ext s s' ∧ Gd K CT s' S' H ∧ RepL K CT s'.F ps vs := by
  induction ws with
  | nil => intro vs ps s S g r e; cases e; exact ⟨s, Ext.refl s, g, r⟩
  | cons w ws ih =>
    intro vs ps s S g r e
    obtain ⟨v, vs', h1, h2, h3⟩ := r
    simp only [frzs, Option.bind_eq_some_iff, Option.map_eq_some_iff] at e
    obtain ⟨⟨p, S1⟩, e1, ⟨ps, S2⟩, e2, e3⟩ := e
    cases e3
    obtain ⟨s1, x1, g1, r1⟩ := frz_ok g h2 e1
    obtain ⟨s2, x2, g2, r2⟩ := ih g1 (h3.mono x1) e2
    exact ⟨s2, x1.trans x2, g2, ⟨v, vs', h1, r1.mono x2.f, r2⟩⟩
end
def doFrz (w : W) (S : Store) : RE P := match frz S w with
  | some (p, S') => .ok p S'
  | none => .bad
def doFrzs (ws : List W) (S : Store) : RE (List P) := match frzs S ws with
  | some (p, S') => .ok p S'
  | none => .bad
section
variable {K : PySem.W.Frag} {CT : Str → Addr} {s : Fs} {S : Store} {H : Hp} {β δ : Type} {Rb : Fs → β → δ → Prop} {Q : δ → Hp → Prop} {EX : Value → Option Addr → Hp → Prop}
theorem RG.frz {w : W} {v : V} {k : P → Store → RE β} (g : Gd K CT s S H) (r : RepW K CT s w v) (h : RG K CT Rb s ((doFrz w S).bind k) Q EX) : ∃ p S' s', Ext s s' ∧ Gd K CT s' S' H ∧ RepP K CT s'.F p v ∧ RG K CT Rb s' (k p S') Q EX := by
  unfold doFrz at h
  cases e : Z.frz S w with
  | none => rw [e] at h; exact h.elim
  | some q =>
    rw [e] at h
    obtain ⟨s', x, g', r'⟩ := frz_ok (S' := q.2) (p := q.1) g r e
    exact ⟨q.1, q.2, s', x, g', r', RG.ext x h⟩
theorem RG.frzs {ws : List W} {vs : List V} {k : List P → Store → RE β} (g : Gd K CT s S H) (r : RepWs K CT s ws vs) (h : RG K CT Rb s ((doFrzs ws S).bind k) Q EX) : ∃ ps S' s', Ext s s' ∧ Gd K CT s' S' H ∧ RepL K CT s'.F ps vs ∧ RG K CT Rb s' (k ps S') Q EX := by
  unfold doFrzs at h
  cases e : Z.frzs S ws with
  | none => rw [e] at h; exact h.elim
  | some q =>
    rw [e] at h
    obtain ⟨s', x, g', r'⟩ := frzs_ok (S' := q.2) (ps := q.1) g r e
    exact ⟨q.1, q.2, s', x, g', r', RG.ext x h⟩
end

/-! ### displays -/
def eTup (fa : FE (List W)) : FE W := fun ρ S => (fa ρ S).bind fun ws S1 => (doFrzs ws S1).bind fun ps S2 => if ps.length ≤ 100000 then .ok (.val (.tup ps)) S2 else .bad
def eLstP (fa : FE (List W)) : FE W := fun ρ S => (fa ρ S).bind fun ws S1 => (doFrzs ws S1).bind fun ps S2 => if ps.length ≤ 100000 then .ok (.val (.lst ps)) S2 else .bad
/-- a list that will be changed: a new cell -/
def eLst (fa : FE (List W)) : FE W := fun ρ S => (fa ρ S).bind fun ws S1 => if ws.length ≤ 100000 then .ok (.loc S1.length) (S1 ++ [.lst ws]) else .bad
section
variable {X : Cx} {CT : Str → Addr} {U : WX} {es : List Expr} {fa : FE (List W)} {pos : Pos}
theorem pz_tup {x1 : Nat} (ha : PZA X CT U es fa) : PZ X CT U (.Tuple es x1 pos) (eTup fa) := weakE (pe_tup ha) fun σ H Q ⟨s, S, ρ, gd, en, h⟩ =>
  ⟨s, S, ρ, gd, en, RG.step h fun ws S1 s1 H1 vs x1 g1 r1 h1 => by
    obtain ⟨ps, S2, s2, x2, g2, r2, h2⟩ := RG.frzs g1 r1 h1
    split at h2
    · rename_i c
      exact ⟨by rw [r2.length]; exact sz5 c, fun p hp => RG.new h2 g2 hp fun F' e q => ⟨p, _, rfl, .inl (.inl q), r2.mono e⟩⟩
    · exact h2.elim⟩
theorem pz_lstP (ha : PZA X CT U es fa) : PZ X CT U (.List es pos) (eLstP fa) := weakE (pe_lst ha) fun σ H Q ⟨s, S, ρ, gd, en, h⟩ =>
  ⟨s, S, ρ, gd, en, RG.step h fun ws S1 s1 H1 vs x1 g1 r1 h1 => by
    obtain ⟨ps, S2, s2, x2, g2, r2, h2⟩ := RG.frzs g1 r1 h1
    split at h2
    · rename_i c
      exact ⟨by rw [r2.length]; exact sz5 c, fun p hp => RG.new h2 g2 hp fun F' e q => ⟨p, _, rfl, q, r2.mono e⟩⟩
    · exact h2.elim⟩
theorem RG.newL {K : PySem.W.Frag} {s : Fs} {S : Store} {H : Hp} {ws : List W} {vs : List V} {Q : VK} {EX : Value → Option Addr → Hp → Prop} (h : RG K CT (RepW K CT) s (.ok (.loc S.length) (S ++ [.lst ws])) Q EX) (g : Gd K CT s S H) (r : RepWs K CT s ws vs)
    {p : Addr} (hp : H p = none) : Q (.ref p) (upd H p (.lst vs)) := by
  obtain ⟨g', x, e⟩ := g.newC (c := .lst ws) hp (upd H p (.lst vs)) (Ex.new hp) upd_same (fun s' x f1 f2 => ⟨f1, f2, vs, upd_same, r.mono x⟩)
  exact h _ _ _ x g' ⟨p, e, rfl⟩
theorem pz_lst (ha : PZA X CT U es fa) : PZ X CT U (.List es pos) (eLst fa) := weakE (pe_lst ha) fun σ H Q ⟨s, S, ρ, gd, en, h⟩ =>
  ⟨s, S, ρ, gd, en, RG.step h fun ws S1 s1 H1 vs x1 g1 r1 h1 => by
    split at h1
    · rename_i c
      exact ⟨by rw [r1.length]; exact sz5 c, fun p hp => RG.newL h1 g1 r1 hp⟩
    · exact h1.elim⟩
end

/-! ### items, len, slices -/
def seqW (S : Store) : W → Option (List W)
  | .val (.lst ps) => some (ps.map .val)
  | .val (.scr ns) => some (ns.map fun n => .val (.int n))
  | .loc n => match S[n]? with
    | some (.lst ws) => some ws
    | some (.frz (.lst ps)) => some (ps.map .val)
    | _ => none
  | _ => none
section
variable {K : PySem.W.Frag} {CT : Str → Addr} {s : Fs} {S : Store} {H : Hp}
theorem RepL.ws : ∀ {ps : List P} {vs : List V}, RepL K CT s.F ps vs → RepWs K CT s (ps.map .val) vs
  | [], _, h => h
  | p :: ps, _, ⟨v, vs', h1, h2, h3⟩ => ⟨v, vs', h1, h2, RepL.ws h3⟩
theorem scr_ws : ∀ {ns : List Int}, RepWs K CT s (ns.map fun n => W.val (.int n)) (ns.map V.int)
  | [] => rfl
  | n :: ns => ⟨_, _, rfl, rfl, scr_ws⟩
theorem seqW_ok (g : Gd K CT s S H) {w : W} {v : V} {ws : List W} (r : RepW K CT s w v) (e : seqW S w = some ws) : ∃ a vs, v = .ref a ∧ SqL K H a vs ∧ RepWs K CT s ws vs := by
  cases w with
  | val p =>
    cases p with
    | lst ps => cases e; obtain ⟨a, vs, h1, h2, h3⟩ := r; exact ⟨a, vs, h1, SqL.of (g.exF _ _ h2), h3.ws⟩
    | scr ns => cases e; obtain ⟨a, h1, h2⟩ := r; exact ⟨a, _, h1, g.exF.sl h2, scr_ws⟩
    | _ => cases e
  | loc n =>
    obtain ⟨a, h1, rfl⟩ := r
    unfold seqW at e
    cases hc : S[n]? with
    | none => simp [hc] at e
    | some c =>
      have q := g.cells n _ a hc h1
      cases c with
      | ins c ns ws => simp [hc] at e
      | lst ws' =>
        simp only [hc] at e
        cases e
        obtain ⟨_, _, vs, q3, q4⟩ := q
        exact ⟨a, vs, rfl, SqL.of q3, q4⟩
      | frz p =>
        cases p with
        | lst ps =>
          simp only [hc] at e
          cases e
          obtain ⟨b, vs, hb, q3, q4⟩ := q
          cases hb
          exact ⟨_, vs, rfl, SqL.of (g.exF _ _ q3), q4.ws⟩
        | _ => simp [hc] at e
theorem atI_ws {ws : List W} {vs : List V} {i : Int} {w : W} (r : RepWs K CT s ws vs) (e : atI ws i = some w) : ∃ v, atI vs i = some v ∧ RepW K CT s w v := by
  unfold atI at e ⊢
  simp only [Option.bind_eq_some_iff] at e
  obtain ⟨j, e1, e2⟩ := e
  obtain ⟨v, h1, h2⟩ := r.get' e2
  exact ⟨v, by rw [r.length, e1]; exact h1, h2⟩
theorem atI_ps {F : Hp} {ps : List P} {vs : List V} {i : Int} {p : P} (r : RepL K CT F ps vs) (e : atI ps i = some p) : ∃ v, atI vs i = some v ∧ RepP K CT F p v := by
  unfold atI at e ⊢
  simp only [Option.bind_eq_some_iff] at e
  obtain ⟨j, e1, e2⟩ := e
  obtain ⟨v, h1, h2⟩ := r.get' e2
  exact ⟨v, by rw [r.length, e1]; exact h1, h2⟩
end
def orBad {α : Type} (o : Option α) (S : Store) : RE α := match o with
  | some a => .ok a S
  | none => .bad
def ixW : O2 := fun a b S => match b with
  | .val (.int i) => match a with
    | .val (.tup ps) => orBad ((atI ps i).map .val) S
    | .val (.str z) => if z.length ≤ 1000000 then orBad ((atI z.cps.toList i).map fun c => .val (.str ⟨#[c]⟩)) S else .bad
    | a => match seqW S a with
      | some ws => orBad (atI ws i) S
      | none => .bad
  | _ => .bad
section
variable {X : Cx} {CT : Str → Addr} {U : WX} {a b c : Expr} {fa fb fc : FE W} {pos : Pos}
theorem RG.orBad {α γ : Type} {K : PySem.W.Frag} {Ra : Fs → α → γ → Prop} {s : Fs} {o : Option α} {S : Store} {Q : γ → Hp → Prop} {EX : Value → Option Addr → Hp → Prop} (h : RG K CT Ra s (orBad o S) Q EX) : ∃ a, o = some a ∧ RG K CT Ra s (.ok a S) Q EX := by
  cases o with
  | none => exact h.elim
  | some a => exact ⟨a, rfl, h⟩
theorem oz_ix {K : PySem.W.Frag} : OpZ K CT (rIx K) ixW := fun s S H a b x y Q EX gd ra rb h => by
  unfold ixW at h
  split at h
  · rename_i i
    split at h
    · rename_i ps
      obtain ⟨w, e, h⟩ := RG.orBad h
      simp only [Option.map_eq_some_iff] at e
      obtain ⟨p, e, rfl⟩ := e
      obtain ⟨a, vs, rfl, h1, h2⟩ := ra
      obtain ⟨v, e1, r1⟩ := atI_ps h2 e
      exact .inr (.inl ⟨a, vs, i, v, rfl, rb, gd.exF.st h1, e1, RG.here h gd r1⟩)
    · rename_i z
      split at h
      · rename_i c
        obtain ⟨w, e, h⟩ := RG.orBad h
        simp only [Option.map_eq_some_iff] at e
        obtain ⟨p, e, rfl⟩ := e
        exact .inr (.inr ⟨z, i, p, ra, rb, sz6 c, e, RG.here h gd rfl⟩)
      · exact h.elim
    · split at h
      · rename_i ws e
        obtain ⟨w, e1, h⟩ := RG.orBad h
        obtain ⟨a, vs, rfl, h1, h2⟩ := seqW_ok gd ra e
        obtain ⟨v, e2, r2⟩ := atI_ws h2 e1
        exact .inl ⟨a, vs, i, v, rfl, rb, h1, e2, RG.here h gd r2⟩
      · exact h.elim
  · exact h.elim
theorem pz_ix (ha : PZ X CT U a fa) (hb : PZ X CT U b fb) (hs : PlainIx b := by intro _ _; rfl) : PZ X CT U (.Subscript a b pos) (eBin ixW fa fb) := weakE (pe_ix ix_seq ha hb hs) fun σ H Q h => bin_can oz_ix h

/-! ### calls of built-ins -/
def CallZ (K : PySem.W.Frag) (CT : Str → Addr) (r : List V → Hp → VK → Prop) (op : List W → Store → RE W) : Prop := ∀ (s : Fs) (S : Store) (H : Hp) (ws : List W) (vs : List V) (Q : VK) (EX : Value → Option Addr → Hp → Prop),
  Gd K CT s S H → RepWs K CT s ws vs → RG K CT (RepW K CT) s (op ws S) Q EX → r vs H Q
def eCB (op : List W → Store → RE W) (fa : FE (List W)) : FE W := fun ρ S => (fa ρ S).bind op
theorem cb_can {fa : FE (List W)} {r : List V → Hp → VK → Prop} {op : List W → Store → RE W} (hz : CallZ X.K CT r op) {σ : L2.St} {H : Hp} {Q : VK} (h : canE X.K CT U (eCB op fa) σ H Q) : tCB r (canA X.K CT U fa) σ H Q := by
  obtain ⟨s, S, ρ, gd, en, h⟩ := h
  exact ⟨s, S, ρ, gd, en, RG.step h fun ws S1 s1 H1 vs x1 g1 r1 h1 => hz s1 S1 H1 ws vs Q _ g1 r1 h1⟩
variable {e : Expr} {es : List Expr} {ga : FE (List W)} {x : Str} {p : Pos} {bid T : String} {r : List V → Hp → VK → Prop} {op : List W → Store → RE W}
theorem pz_callB (hc : CallR X (.builtin bid) r) (hz : CallZ X.K CT r op) (hg : Gl X x) (hm : X.mg x = none) (hv : bootBuiltins x = some (.builtin bid)) (ha : PZA X CT U (e :: es) ga) (hn : x ≠ "__name__" := by decide) (hdb : (x == ("__debug__" : Str)) = false := by decide)
    (he : starEach (e :: es) X.env = (false, eval e X.env) :: starEach es X.env := by rfl) (hpl : (backTo pos (starEach es X.env)).any (·.1) = false := by rfl) : PZ X CT U (.Call (.Name x p) (e :: es) [] pos) (eCB op ga) :=
  weakE (pe_callB hc hg hm hv ha hn hdb he hpl) fun σ H Q h => cb_can hz h
theorem pz_callTy (hc : CallR X (.type T) r) (hz : CallZ X.K CT r op) (hg : Gl X x) (hm : X.mg x = none) (hv : bootBuiltins x = some (.type T)) (ha : PZA X CT U (e :: es) ga) (hn : x ≠ "__name__" := by decide) (hdb : (x == ("__debug__" : Str)) = false := by decide)
    (he : starEach (e :: es) X.env = (false, eval e X.env) :: starEach es X.env := by rfl) (hpl : (backTo pos (starEach es X.env)).any (·.1) = false := by rfl) : PZ X CT U (.Call (.Name x p) (e :: es) [] pos) (eCB op ga) :=
  weakE (pe_callTy hc hg hm hv ha hn hdb he hpl) fun σ H Q h => cb_can hz h
theorem rep1 {K : PySem.W.Frag} {s : Fs} {w : W} {vs : List V} (r : RepWs K CT s [w] vs) : ∃ v, vs = [v] ∧ RepW K CT s w v := by
  obtain ⟨v, vs', rfl, h2, h3⟩ := r
  rw [show vs' = [] from h3]
  exact ⟨v, rfl, h2⟩
theorem rep2 {K : PySem.W.Frag} {s : Fs} {w u : W} {vs : List V} (r : RepWs K CT s [w, u] vs) : ∃ v v', vs = [v, v'] ∧ RepW K CT s w v ∧ RepW K CT s u v' := by
  obtain ⟨v, vs', rfl, h2, h3⟩ := r
  obtain ⟨v', rfl, h4⟩ := rep1 h3
  exact ⟨v, v', rfl, h2, h4⟩

def lenOf (S : Store) : W → Option Nat
  | .val (.str z) => if z.length ≤ 1000000 then some z.length else none
  | .val (.tup ps) => some ps.length
  | w => (seqW S w).map List.length
def lenW : List W → Store → RE W
  | [w], S => orBad ((lenOf S w).map fun (n : Nat) => W.val (.int (n : Int))) S
  | _, _ => .bad
theorem cz_len {K : PySem.W.Frag} : CallZ K CT (fun xs H Q => ∃ x n, xs = [x] ∧ LenV K x H n ∧ Q (.int n) H) lenW := fun s S H ws vs Q EX gd r h => by
  unfold lenW at h
  split at h
  · rename_i w
    obtain ⟨v, rfl, rw⟩ := rep1 r
    obtain ⟨k, e, h⟩ := RG.orBad h
    simp only [Option.map_eq_some_iff] at e
    obtain ⟨n, e, rfl⟩ := e
    refine ⟨v, n, rfl, ?_, RG.here h gd rfl⟩
    unfold lenOf at e
    split at e
    · rename_i z
      split at e
      · rename_i c
        cases e
        rw [show v = _ from rw]
        exact ⟨sz6 c, rfl⟩
      · cases e
    · rename_i ps
      cases e
      obtain ⟨a, vs, rfl, h1, h2⟩ := rw
      exact .inr ⟨vs, gd.exF.st h1, h2.length.symm⟩
    · simp only [Option.map_eq_some_iff] at e
      obtain ⟨ws, e, rfl⟩ := e
      obtain ⟨a, vs, rfl, h1, h2⟩ := seqW_ok gd rw e
      exact .inl ⟨vs, h1, h2.length.symm⟩
  · exact h.elim
theorem pz_len (hg : Gl X "len") (hm : X.mg "len" = none) (ha : PZA X CT U [a] ga) (he : starEach [a] X.env = (false, eval a X.env) :: starEach [] X.env := by rfl) : PZ X CT U (.Call (.Name "len" p) [a] [] pos) (eCB lenW ga) :=
  pz_callB call_len cz_len hg hm PySem.boot_len ha (by decide) (by decide) he rfl
def absW : List W → Store → RE W
  | [.val (.int i)], S => .ok (.val (.int (if i < 0 then -i else i))) S
  | _, _ => .bad
theorem cz_abs {K : PySem.W.Frag} : CallZ K CT (fun xs H Q => ∃ i, xs = [.int i] ∧ Q (.int (if i < 0 then -i else i)) H) absW := fun s S H ws vs Q EX gd r h => by
  unfold absW at h
  split at h
  · rename_i i
    obtain ⟨v, rfl, rw⟩ := rep1 r
    exact ⟨i, by rw [show v = _ from rw], RG.here h gd rfl⟩
  · exact h.elim
theorem pz_abs (hg : Gl X "abs") (hm : X.mg "abs" = none) (ha : PZA X CT U [a] ga) (he : starEach [a] X.env = (false, eval a X.env) :: starEach [] X.env := by rfl) : PZ X CT U (.Call (.Name "abs" p) [a] [] pos) (eCB absW ga) :=
  pz_callB call_abs cz_abs hg hm (by decide +kernel) ha (by decide) (by decide) he rfl
/-- int(number), int(flag) -/
def intW : List W → Store → RE W
  | [.val (.int i)], S => .ok (.val (.int i)) S
  | [.val (.bl b)], S => .ok (.val (.int (if b = true then 1 else 0))) S
  | _, _ => .bad
theorem cz_int {K : PySem.W.Frag} : CallZ K CT (fun xs H Q => (∃ i, xs = [.int i] ∧ Q (.int i) H) ∨ ∃ k, xs = [.bl k] ∧ Q (.int (if k then 1 else 0)) H) intW := fun s S H ws vs Q EX gd r h => by
  unfold intW at h
  split at h
  · rename_i i
    obtain ⟨v, rfl, rw⟩ := rep1 r
    exact .inl ⟨i, by rw [show v = _ from rw], RG.here h gd rfl⟩
  · rename_i i
    obtain ⟨v, rfl, rw⟩ := rep1 r
    exact .inr ⟨i, by rw [show v = _ from rw], RG.here h gd rfl⟩
  · exact h.elim
theorem pz_int1 (hg : Gl X "int") (hm : X.mg "int" = none) (ha : PZA X CT U [a] ga) (he : starEach [a] X.env = (false, eval a X.env) :: starEach [] X.env := by rfl) : PZ X CT U (.Call (.Name "int" p) [a] [] pos) (eCB intW ga) :=
  pz_callTy call_int1 cz_int hg hm (by decide +kernel) ha (by decide) (by decide) he rfl
def max2W : List W → Store → RE W
  | [.val (.int i), .val (.int j)], S => .ok (.val (.int (if j > i then j else i))) S
  | _, _ => .bad
def min2W : List W → Store → RE W
  | [.val (.int i), .val (.int j)], S => .ok (.val (.int (if j < i then j else i))) S
  | _, _ => .bad
theorem cz_max2 {K : PySem.W.Frag} : CallZ K CT (fun xs H Q => ∃ i j, xs = [.int i, .int j] ∧ Q (.int (if j > i then j else i)) H) max2W := fun s S H ws vs Q EX gd r h => by
  unfold max2W at h
  split at h
  · rename_i i j
    obtain ⟨v, v', rfl, r1, r2⟩ := rep2 r
    exact ⟨i, j, by rw [show v = _ from r1, show v' = _ from r2], RG.here h gd rfl⟩
  · exact h.elim
theorem cz_min2 {K : PySem.W.Frag} : CallZ K CT (fun xs H Q => ∃ i j, xs = [.int i, .int j] ∧ Q (.int (if j < i then j else i)) H) min2W := fun s S H ws vs Q EX gd r h => by
  unfold min2W at h
  split at h
  · rename_i i j
    obtain ⟨v, v', rfl, r1, r2⟩ := rep2 r
    exact ⟨i, j, by rw [show v = _ from r1, show v' = _ from r2], RG.here h gd rfl⟩
  · exact h.elim
theorem pz_max2 (hc : X.calm = true) (hg : Gl X "max") (hm : X.mg "max" = none) (ha : PZA X CT U [a, b] ga) (he : starEach [a, b] X.env = (false, eval a X.env) :: starEach [b] X.env := by rfl) (hpl : (backTo pos (starEach [b] X.env)).any (·.1) = false := by rfl) : PZ X CT U (.Call (.Name "max" p) [a, b] [] pos) (eCB max2W ga) :=
  pz_callB (call_max2 hc) cz_max2 hg hm (by decide +kernel) ha (by decide) (by decide) he hpl
theorem pz_min2 (hc : X.calm = true) (hg : Gl X "min") (hm : X.mg "min" = none) (ha : PZA X CT U [a, b] ga) (he : starEach [a, b] X.env = (false, eval a X.env) :: starEach [b] X.env := by rfl) (hpl : (backTo pos (starEach [b] X.env)).any (·.1) = false := by rfl) : PZ X CT U (.Call (.Name "min" p) [a, b] [] pos) (eCB min2W ga) :=
  pz_callB (call_min2 hc) cz_min2 hg hm (by decide +kernel) ha (by decide) (by decide) he hpl
/-! sum(list of ints), all(list of bools), any -/
def intsOf : List P → Option (List Int)
  | [] => some []
  | .int i :: ps => (intsOf ps).map (i :: ·)
  | _ :: _ => none
def boolsOf : List P → Option (List Bool)
  | [] => some []
  | .bl i :: ps => (boolsOf ps).map (i :: ·)
  | _ :: _ => none
theorem intsOf_ok {K : PySem.W.Frag} {F : Hp} : ∀ {ps : List P} {vs : List V} {ns : List Int}, intsOf ps = some ns → RepL K CT F ps vs → vs = ns.map V.int
  | [], _, _, e, h => by cases e; exact h
  | p :: ps, _, _, e, ⟨v, vs', h1, h2, h3⟩ => by
    cases p with
    | int i =>
      simp only [intsOf, Option.map_eq_some_iff] at e
      obtain ⟨ns, e, rfl⟩ := e
      rw [h1, show v = _ from h2, intsOf_ok e h3, List.map_cons]
    | _ => cases e
theorem boolsOf_ok {K : PySem.W.Frag} {F : Hp} : ∀ {ps : List P} {vs : List V} {ns : List Bool}, boolsOf ps = some ns → RepL K CT F ps vs → vs = ns.map V.bl
  | [], _, _, e, h => by cases e; exact h
  | p :: ps, _, _, e, ⟨v, vs', h1, h2, h3⟩ => by
    cases p with
    | bl i =>
      simp only [boolsOf, Option.map_eq_some_iff] at e
      obtain ⟨ns, e, rfl⟩ := e
      rw [h1, show v = _ from h2, boolsOf_ok e h3, List.map_cons]
    | _ => cases e
def sumW : List W → Store → RE W
  | [w], S => match pOf S w with
    | some (.lst ps) => orBad ((intsOf ps).map fun ns => .val (.int ns.sum)) S
    | _ => .bad
  | _, _ => .bad
def allW (every : Bool) : List W → Store → RE W
  | [w], S => match pOf S w with
    | some (.lst ps) => orBad ((boolsOf ps).map fun bs => .val (.bl (if every = true then bs.all id else bs.any id))) S
    | _ => .bad
  | _, _ => .bad
theorem cz_sum {K : PySem.W.Frag} : CallZ K CT (rSum K) sumW := fun s S H ws vs Q EX gd r h => by
  unfold sumW at h
  split at h
  · rename_i w
    obtain ⟨v, rfl, rw⟩ := rep1 r
    split at h
    · rename_i ps e
      obtain ⟨a, vs, rfl, h1, h2⟩ := (pOf_ok gd rw e).lst gd
      obtain ⟨k, e, h⟩ := RG.orBad h
      simp only [Option.map_eq_some_iff] at e
      obtain ⟨ns, e, rfl⟩ := e
      have e2 := intsOf_ok e h2
      subst e2
      exact ⟨a, ns, rfl, SqL.of h1, RG.here h gd rfl⟩
    · exact h.elim
  · exact h.elim
theorem cz_all {K : PySem.W.Frag} : CallZ K CT (rAll K) (allW true) := fun s S H ws vs Q EX gd r h => by
  unfold allW at h
  split at h
  · rename_i w
    obtain ⟨v, rfl, rw⟩ := rep1 r
    split at h
    · rename_i ps e
      obtain ⟨a, vs, rfl, h1, h2⟩ := (pOf_ok gd rw e).lst gd
      obtain ⟨k, e, h⟩ := RG.orBad h
      simp only [Option.map_eq_some_iff] at e
      obtain ⟨ns, e, rfl⟩ := e
      have e2 := boolsOf_ok e h2
      subst e2
      exact ⟨a, ns, rfl, SqL.of h1, RG.here h gd rfl⟩
    · exact h.elim
  · exact h.elim
theorem cz_any {K : PySem.W.Frag} : CallZ K CT (rAny K) (allW false) := fun s S H ws vs Q EX gd r h => by
  unfold allW at h
  split at h
  · rename_i w
    obtain ⟨v, rfl, rw⟩ := rep1 r
    split at h
    · rename_i ps e
      obtain ⟨a, vs, rfl, h1, h2⟩ := (pOf_ok gd rw e).lst gd
      obtain ⟨k, e, h⟩ := RG.orBad h
      simp only [Option.map_eq_some_iff] at e
      obtain ⟨ns, e, rfl⟩ := e
      have e2 := boolsOf_ok e h2
      subst e2
      exact ⟨a, ns, rfl, SqL.of h1, RG.here h gd rfl⟩
    · exact h.elim
  · exact h.elim
theorem pz_sum (hc : X.calm = true) (hg : Gl X "sum") (hm : X.mg "sum" = none) (ha : PZA X CT U [a] ga) (he : starEach [a] X.env = (false, eval a X.env) :: starEach [] X.env := by rfl) : PZ X CT U (.Call (.Name "sum" p) [a] [] pos) (eCB sumW ga) :=
  pz_callB (cr_sum hc) cz_sum hg hm (by decide +kernel) ha (by decide) (by decide) he rfl
theorem pz_all (hc : X.calm = true) (hg : Gl X "all") (hm : X.mg "all" = none) (ha : PZA X CT U [a] ga) (he : starEach [a] X.env = (false, eval a X.env) :: starEach [] X.env := by rfl) : PZ X CT U (.Call (.Name "all" p) [a] [] pos) (eCB (allW true) ga) :=
  pz_callB (cr_all hc) cz_all hg hm (by decide +kernel) ha (by decide) (by decide) he rfl
theorem pz_any (hc : X.calm = true) (hg : Gl X "any") (hm : X.mg "any" = none) (ha : PZA X CT U [a] ga) (he : starEach [a] X.env = (false, eval a X.env) :: starEach [] X.env := by rfl) : PZ X CT U (.Call (.Name "any" p) [a] [] pos) (eCB (allW false) ga) :=
  pz_callB (cr_any hc) cz_any hg hm (by decide +kernel) ha (by decide) (by decide) he rfl
end
end Z
end
-- part Z4
section
set_option Elab.async false
set_option linter.all false
set_option maxRecDepth 100000
set_option autoImplicit false
namespace Z
open PySem PySem.Spec PyProof.Rows L2

/-! ### targets -/
inductive Tg where
  | nm (i : Nat) | tp (ts : List Tg)
mutual
def tgG (K : PySem.W.Frag) : Tg → TG
  | .nm i => gName i
  | .tp ts => gTup K ts.length (tgGs K ts)
def tgGs (K : PySem.W.Frag) : List Tg → TGs
  | [] => gNil
  | t :: ts => gCons (tgG K t) (tgGs K ts)
end
mutual
def bindT : Tg → P → Env → Option Env
  | .nm i, p, ρ => some (ρ.set i (some (.val p)))
  | .tp ts, .tup ps, ρ => bindTs ts ps ρ
  | .tp _, _, _ => none
def bindTs : List Tg → List P → Env → Option Env
  | [], [], ρ => some ρ
  | t :: ts, p :: ps, ρ => (bindT t p ρ).bind (bindTs ts ps)
  | _, _, _ => none
end
mutual
def slots : Tg → List Nat
  | .nm i => [i]
  | .tp ts => slotss ts
def slotss : List Tg → List Nat
  | [] => []
  | t :: ts => slots t ++ slotss ts
end
def wipeE (ρ : Env) : List Nat → Env
  | [] => ρ
  | v :: vs => (wipeE ρ vs).set v none
section
variable {K : PySem.W.Frag} {CT : Str → Addr} {s : Fs} {H : Hp}
theorem EnvOk.wipe {ρ : Env} {σ : L2.St} (e : EnvOk K CT s ρ σ) : ∀ vs : List Nat, EnvOk K CT s (wipeE ρ vs) (L2.wipe σ vs)
  | [] => e
  | v :: vs => (EnvOk.wipe e vs).unset none
theorem wipe_get (σ : L2.St) (k : Nat) : ∀ vs : List Nat, (L2.wipe σ vs)[k]? = if k ∈ vs ∧ k < σ.length then some none else σ[k]?
  | [] => by simp [L2.wipe]
  | v :: vs => by
    unfold L2.wipe
    rw [List.getElem?_set, wipe_get σ k vs, wipe_length]
    by_cases e : v = k
    · subst e
      by_cases l : v < σ.length
      · simp [l]
      · simp [l, List.getElem?_eq_none (Nat.le_of_not_lt l)]
    · have e' : ¬ k = v := fun z => e z.symm
      simp [e, e']
theorem wipe_set {σ : L2.St} {i : Nat} {x : Option V} {vs : List Nat} (h : i ∈ vs) : L2.wipe (σ.set i x) vs = L2.wipe σ vs := by
  apply List.ext_getElem?
  intro k
  rw [wipe_get, wipe_get, List.length_set, List.getElem?_set]
  by_cases e : i = k
  · subst e
    by_cases l : i < σ.length
    · simp [h, l]
    · simp [l, List.getElem?_eq_none (Nat.le_of_not_lt l)]
  · simp [e]
theorem bindTs_len : ∀ {ts : List Tg} {ps : List P} {ρ ρ' : Env}, bindTs ts ps ρ = some ρ' → ps.length = ts.length
  | [], [], _, _, _ => rfl
  | [], _ :: _, _, _, e => by simp [bindTs] at e
  | _ :: _, [], _, _, e => by simp [bindTs] at e
  | t :: ts, p :: ps, ρ, ρ', e => by
    simp only [bindTs, Option.bind_eq_some_iff] at e
    obtain ⟨ρ1, e1, e2⟩ := e
    rw [List.length_cons, List.length_cons, bindTs_len e2]
mutual
theorem bind_ok : ∀ (t : Tg) {p : P} {x : V} {ρ ρ' : Env} {σ : L2.St} {Q : L2.St → Hp → Prop}, Ex s.F H → RepP K CT s.F p x → EnvOk K CT s ρ σ → bindT t p ρ = some ρ' →
    (∀ σ', EnvOk K CT s ρ' σ' → (∀ vs, (∀ i ∈ slots t, i ∈ vs) → L2.wipe σ' vs = L2.wipe σ vs) → Q σ' H) → tgG K t x σ H Q
  | .nm i, p, x, ρ, ρ', σ, Q, eF, r, en, e, h => by
    cases e
    exact h _ (en.set r) (fun vs hv => wipe_set (hv i (by simp [slots])))
  | .tp ts, p, x, ρ, ρ', σ, Q, eF, r, en, e, h => by
    cases p with
    | tup ps =>
      obtain ⟨a, vs, rfl, h1, h2⟩ := r
      exact ⟨a, vs, rfl, eF.st h1, by rw [h2.length]; exact bindTs_len e, bind_oks ts eF h2 en e (fun σ' e' w => h σ' e' w)⟩
    | _ => cases e
theorem bind_oks : ∀ (ts : List Tg) {ps : List P} {xs : List V} {ρ ρ' : Env} {σ : L2.St} {Q : L2.St → Hp → Prop}, Ex s.F H → RepL K CT s.F ps xs → EnvOk K CT s ρ σ → bindTs ts ps ρ = some ρ' →
    (∀ σ', EnvOk K CT s ρ' σ' → (∀ vs, (∀ i ∈ slotss ts, i ∈ vs) → L2.wipe σ' vs = L2.wipe σ vs) → Q σ' H) → tgGs K ts xs σ H Q
  | [], ps, xs, ρ, ρ', σ, Q, eF, r, en, e, h => by
    cases ps with
    | nil =>
      cases e
      have r' := show xs = [] from r
      subst r'
      exact ⟨rfl, h σ en (fun _ _ => rfl)⟩
    | cons p ps => cases e
  | t :: ts, ps, xs, ρ, ρ', σ, Q, eF, r, en, e, h => by
    cases ps with
    | nil => cases e
    | cons p ps =>
      obtain ⟨v, vs, rfl, h2, h3⟩ := r
      simp only [bindTs, Option.bind_eq_some_iff] at e
      obtain ⟨ρ1, e1, e2⟩ := e
      refine ⟨v, vs, rfl, bind_ok t (Q := fun σ' H' => tgGs K ts vs σ' H' Q) eF h2 en e1 fun σ1 en1 w1 => ?_⟩
      exact bind_oks ts eF h3 en1 e2 fun σ2 en2 w2 => h σ2 en2 fun us hu => by
        rw [w2 us fun i hi => hu i (by simp [slotss, hi]), w1 us fun i hi => hu i (by simp [slotss, hi])]
end
end

/-! ### what is walked -/
def WalkP (K : PySem.W.Frag) (CT : Str → Addr) (F : Hp) (ps : List P) (J : It) : Prop := ∃ (G : Hp → Prop) (Y : Nat → Hp → V → Hp → Prop), Walk J ps.length G Y ∧ (∀ H, Ex F H → G H) ∧
  ∀ i H x H', i < ps.length → Ex F H → Y i H x H' → ∃ p, ps[i]? = some p ∧ ((H' = H ∧ RepP K CT F p x) ∨ ∃ T o, H T = none ∧ H' = upd H T o ∧ ∀ F', Ex F F' → F' T = some o → RepP K CT F' p x)
abbrev FI := FE (List P)
def canI (K : PySem.W.Frag) (CT : Str → Addr) (U : WX) (f : FI) : TI := fun σ H Rr => ∃ s S ρ, Gd K CT s S H ∧ EnvOk K CT s ρ σ ∧ RG K CT (fun s' ps J => WalkP K CT s'.F ps J) s (f ρ S) Rr (fun c d H' => U c d σ H')
abbrev PZI (X : Cx) (CT : Str → Addr) (U : WX) (tg e : Expr) (f : FI) : Prop := PI X tg e (canI X.K CT U f)
theorem weakI {X : Cx} {tg e : Expr} {t t' : TI} (h : PI X tg e t) (w : ∀ σ H Q, t' σ H Q → t σ H Q) : PI X tg e t' := ⟨fun pins s σ H Q I q => h.run pins s σ H Q I (w σ H Q q)⟩
theorem PI.or {X : Cx} {tg e : Expr} {t t' : TI} (h : PI X tg e t) (h' : PI X tg e t') : PI X tg e (fun σ H Q => t σ H Q ∨ t' σ H Q) := ⟨fun pins s σ H Q I q => by
  rcases q with q | q
  · exact h.run pins s σ H Q I q
  · exact h'.run pins s σ H Q I q⟩
def itemsW (w : W) (S : Store) : RE (List P) := match w with
  | .val (.tup ps) => .ok ps S
  | .val (.str z) => .ok (z.cps.toList.map fun c => .str ⟨#[c]⟩) S
  | .val (.scr ns) => .ok (ns.map .int) S
  | w => match frz1 S w with
    | some (.lst ps, S') => .ok ps S'
    | _ => .bad
def iSeq (f : FE W) : FI := fun ρ S => (f ρ S).bind itemsW
section
variable {K : PySem.W.Frag} {CT : Str → Addr} {F : Hp}
theorem walkL {a : Addr} {vs : List V} {ps : List P} (h : ∀ H, Ex F H → SqL K H a vs) (r : RepL K CT F ps vs) : WalkP K CT F ps (Itl K a) := by
  refine ⟨_, _, by rw [← r.length]; exact walk_list (a := a) (xs := vs), h, fun i H x H' hi e y => ?_⟩
  obtain ⟨rfl, y⟩ := y
  obtain ⟨p, h1, h2⟩ := r.get y
  exact ⟨p, h1, .inl ⟨rfl, h2⟩⟩
theorem walkT {a : Addr} {vs : List V} {ps : List P} (h : SqT K F a vs) (r : RepL K CT F ps vs) : WalkP K CT F ps (Itt K a) := by
  refine ⟨_, _, by rw [← r.length]; exact walk_tup (a := a) (xs := vs), fun H e => e.st h, fun i H x H' hi e y => ?_⟩
  obtain ⟨rfl, y⟩ := y
  obtain ⟨p, h1, h2⟩ := r.get y
  exact ⟨p, h1, .inl ⟨rfl, h2⟩⟩
theorem walkS {z : Str} : WalkP K CT F (z.cps.toList.map fun c => P.str ⟨#[c]⟩) (Its z) := by
  refine ⟨_, _, by rw [List.length_map, Array.length_toList]; exact walk_str (z := z), fun _ _ => trivial, fun i H x H' hi e y => ?_⟩
  obtain ⟨rfl, c, h1, rfl⟩ := y
  exact ⟨.str ⟨#[c]⟩, by rw [List.getElem?_map, Array.getElem?_toList, h1]; rfl, .inl ⟨rfl, rfl⟩⟩
theorem scr_rep : ∀ {ns : List Int}, RepL K CT F (ns.map P.int) (ns.map V.int)
  | [] => rfl
  | n :: ns => ⟨_, _, rfl, rfl, scr_rep⟩
end
section
variable {X : Cx} {CT : Str → Addr} {U : WX} {tg e : Expr} {fe : FE W} {fi : FI} {pos : Pos}
theorem zi_seq (ha : PZ X CT U e fe) : PZI X CT U tg e (iSeq fe) := weakI (PI.or (pi_list ha) (PI.or (pi_tup ha) (pi_str ha))) fun σ H Rr ⟨s, S, ρ, gd, en, h⟩ => by
  unfold iSeq at h
  cases er : fe ρ S with
  | bad => rw [er] at h; exact h.elim
  | ex x S1 => rw [er] at h; exact .inl ⟨s, S, ρ, gd, en, by rw [er]; exact h⟩
  | ok w S1 =>
    have h' := h
    rw [er] at h'
    have fin : ∀ {w0 : W}, w = w0 → (itemsW w0 S1 = (match frz1 S1 w0 with | some (.lst ps, S') => .ok ps S' | _ => .bad)) → iList X.K (canE X.K CT U fe) σ H Rr := by
      rintro _ rfl hi
      refine ⟨s, S, ρ, gd, en, ?_⟩
      rw [er]
      intro s1 H1 v x1 g1 r1
      have h2 : RG X.K CT (fun s' ps J => WalkP X.K CT s'.F ps J) s1 (itemsW w S1) Rr _ := RG.ext x1 h'
      rw [hi] at h2
      cases ef : frz1 S1 w with
      | none => rw [ef] at h2; exact h2.elim
      | some q =>
        obtain ⟨p, S2⟩ := q
        rw [ef] at h2
        cases p with
        | lst ps =>
          obtain ⟨s2, x2, g2, r2⟩ := frz1_ok g1 r1 ef
          obtain ⟨a, vs, rfl, q1, q2⟩ := r2
          exact ⟨a, rfl, ⟨vs, SqL.of (g2.exF _ _ q1)⟩, h2 s2 H1 _ x2 g2 (walkL (fun H e => SqL.of (e _ _ q1)) q2)⟩
        | _ => exact h2.elim
    cases w with
    | loc n => exact .inl (fin rfl rfl)
    | val p =>
      cases p with
      | tup ps =>
        refine .inr (.inl ⟨s, S, ρ, gd, en, ?_⟩)
        rw [er]
        intro s1 H1 v x1 g1 r1
        have h2 : RG X.K CT (fun s' ps J => WalkP X.K CT s'.F ps J) s1 (.ok ps S1) Rr _ := RG.ext x1 h'
        obtain ⟨a, vs, rfl, q1, q2⟩ := r1
        exact ⟨a, rfl, ⟨vs, g1.exF.st q1⟩, RG.here h2 g1 (walkT q1 q2)⟩
      | str z =>
        refine .inr (.inr ⟨s, S, ρ, gd, en, ?_⟩)
        rw [er]
        intro s1 H1 v x1 g1 r1
        have h2 : RG X.K CT (fun s' ps J => WalkP X.K CT s'.F ps J) s1 (.ok _ S1) Rr _ := RG.ext x1 h'
        exact ⟨z, r1, RG.here h2 g1 walkS⟩
      | scr ns =>
        refine .inl ⟨s, S, ρ, gd, en, ?_⟩
        rw [er]
        intro s1 H1 v x1 g1 r1
        have h2 : RG X.K CT (fun s' ps J => WalkP X.K CT s'.F ps J) s1 (.ok _ S1) Rr _ := RG.ext x1 h'
        obtain ⟨a, rfl, q1⟩ := r1
        exact ⟨a, rfl, ⟨_, g1.exF.sl q1⟩, RG.here h2 g1 (walkL (fun H e => e.sl q1) scr_rep)⟩
      | lst ps => exact .inl (fin rfl rfl)
      | _ => exact h'.elim
/-! range, zip -/
def rngOk (i j : Int) : Bool := decide (-(2 ^ 62) ≤ i) && decide (i < 2 ^ 62) && decide (-(2 ^ 62) ≤ j) && decide (j < 2 ^ 62)
def rngP (lo : Int) (n : Nat) : List P := (List.range n).map fun (k : Nat) => P.int (lo + (k : Int))
theorem walkR {K : PySem.W.Frag} {F : Hp} {lo : Int} {n : Nat} : WalkP K CT F (rngP lo n) (Itr lo n) := by
  refine ⟨_, _, by unfold rngP; rw [List.length_map, List.length_range]; exact walk_range, fun _ _ => trivial, fun i H x H' hi e y => ?_⟩
  obtain ⟨rfl, rfl⟩ := y
  unfold rngP at hi ⊢
  rw [List.length_map, List.length_range] at hi
  exact ⟨.int (lo + i), by rw [List.getElem?_map, List.getElem?_range hi]; rfl, .inl ⟨rfl, rfl⟩⟩
def iRange1 (fa : FE (List W)) : FI := fun ρ S => (fa ρ S).bind fun ws S1 => match ws with
  | [.val (.int j)] => if rngOk 0 j = true then .ok (rngP 0 j.toNat) S1 else .bad
  | _ => .bad
def iRange2 (fa : FE (List W)) : FI := fun ρ S => (fa ρ S).bind fun ws S1 => match ws with
  | [.val (.int i), .val (.int j)] => if rngOk i j = true then .ok (rngP i (j - i).toNat) S1 else .bad
  | _ => .bad
variable {a b : Expr} {ga : FE (List W)} {p : Pos}
theorem zi_range1 (hg : Gl X "range") (hm : X.mg "range" = none) (ha : PZA X CT U [a] ga) (hs : starEach [a] X.env = [(false, eval a X.env)] := by rfl) : PZI X CT U tg (.Call (.Name "range" p) [a] [] pos) (iRange1 ga) := weakI (pi_range1 hg hm ha hs) fun σ H Rr ⟨s, S, ρ, gd, en, h⟩ =>
  ⟨s, S, ρ, gd, en, RG.step h fun ws S1 s1 H1 vs x1 g1 r1 h1 => by
    split at h1
    · rename_i j
      obtain ⟨v, rfl, rv⟩ := rep1 r1
      split at h1
      · rename_i c
        simp only [rngOk, Bool.and_eq_true, decide_eq_true_eq] at c
        exact ⟨j, by rw [show v = _ from rv], c.1.2, c.2, RG.here h1 g1 walkR⟩
      · exact h1.elim
    · exact h1.elim⟩
theorem zi_range2 (hg : Gl X "range") (hm : X.mg "range" = none) (ha : PZA X CT U [a, b] ga) (hs : starEach [a, b] X.env = [(false, eval a X.env), (false, eval b X.env)] := by rfl) (hs2 : starEach [b] X.env = [(false, eval b X.env)] := by rfl) :
    PZI X CT U tg (.Call (.Name "range" p) [a, b] [] pos) (iRange2 ga) := weakI (pi_range2 hg hm ha hs hs2) fun σ H Rr ⟨s, S, ρ, gd, en, h⟩ =>
  ⟨s, S, ρ, gd, en, RG.step h fun ws S1 s1 H1 vs x1 g1 r1 h1 => by
    split at h1
    · rename_i i j
      obtain ⟨v, v', rfl, rv, rv'⟩ := rep2 r1
      split at h1
      · rename_i c
        simp only [rngOk, Bool.and_eq_true, decide_eq_true_eq] at c
        exact ⟨i, j, by rw [show v = _ from rv, show v' = _ from rv'], ⟨c.1.1.1, c.1.1.2, c.1.2, c.2⟩, RG.here h1 g1 walkR⟩
      · exact h1.elim
    · exact h1.elim⟩
/-- zip of two lists (what is walked is frozen) -/
def iZip (fa : FE (List W)) : FI := fun ρ S => (fa ρ S).bind fun ws S1 => (doFrzs ws S1).bind fun ps S2 => match ps with
  | [.lst xs, .lst ys] => .ok ((xs.zip ys).map fun q => .tup [q.1, q.2]) S2
  | _ => .bad
theorem pair_rep {K : PySem.W.Frag} {F : Hp} {T : Addr} {p q : P} {x z : V} (f : F T = some (.tup [x, z])) (h1 : RepP K CT F p x) (h2 : RepP K CT F q z) : RepP K CT F (.tup [p, q]) (.ref T) :=
  ⟨T, [x, z], rfl, .inl (.inl f), x, [z], rfl, h1, z, [], rfl, h2, rfl⟩
theorem zipw {K : PySem.W.Frag} {F : Hp} {a b : Addr} {xs ys : List V} {ps qs : List P} (h1 : F a = some (.lst xs)) (h2 : F b = some (.lst ys)) (r1 : RepL K CT F ps xs) (r2 : RepL K CT F qs ys) :
    WalkP K CT F ((ps.zip qs).map fun q => P.tup [q.1, q.2]) (Itz K a b) := by
  refine ⟨fun H => SqL K H a xs ∧ SqL K H b ys, YPair (fun i => xs[i]?) (fun i => ys[i]?), by rw [List.length_map, List.length_zip, ← r1.length, ← r2.length]; exact walk_zip (xs := xs) (ys := ys) rfl, fun H e => ⟨SqL.of (e _ _ h1), SqL.of (e _ _ h2)⟩, fun i H v H' hi e y => ?_⟩
  obtain ⟨T, x, z, rfl, hT, rfl, e1, e2⟩ := y
  obtain ⟨p, p1, p2⟩ := r1.get e1
  obtain ⟨q, q1, q2⟩ := r2.get e2
  refine ⟨.tup [p, q], ?_, .inr ⟨T, .tup [x, z], hT, rfl, fun F' e f => ?_⟩⟩
  case refine_2 => exact pair_rep f (p2.mono e) (q2.mono e)
  rw [List.getElem?_map]
  have : (ps.zip qs)[i]? = some (p, q) := by rw [List.getElem?_zip_eq_some]; exact ⟨p1, q1⟩
  rw [this]; rfl
theorem zi_zip {elts : List Expr} {kk : Nat} {tpos : Pos} (hg : Gl X "zip") (hm : X.mg "zip" = none) (ha : PZA X CT U [a, b] ga)
    (hs : starEach [a, b] X.env = (false, eval a X.env) :: starEach [b] X.env := by rfl) (hpl : (backTo pos (starEach [b] X.env)).any (·.1) = false := by rfl) : PZI X CT U (.Tuple elts kk tpos) (.Call (.Name "zip" p) [a, b] [] pos) (iZip ga) :=
  weakI (pi_zip hg hm ha hs hpl) fun σ H Rr ⟨s, S, ρ, gd, en, h⟩ => ⟨s, S, ρ, gd, en, RG.step h fun ws S1 s1 H1 vs x1 g1 r1 h1 => by
    obtain ⟨ps, S2, s2, x2, g2, r2, h2⟩ := RG.frzs g1 r1 h1
    split at h2
    · rename_i xs ys
      obtain ⟨v, _, rfl, rv, v', _, rfl, rv', e⟩ := r2
      have e := show _ = [] from e
      subst e
      obtain ⟨a1, us, rfl, f1, l1⟩ := rv
      obtain ⟨a2, us2, rfl, f2, l2⟩ := rv'
      exact ⟨a1, a2, us, us2, rfl, SqL.of (g2.exF _ _ f1), SqL.of (g2.exF _ _ f2), RG.here h2 g2 (zipw f1 f2 l1 l2)⟩
    · exact h2.elim⟩
/-- enumerate(list) -/
def iEnum (fa : FE (List W)) : FI := fun ρ S => (fa ρ S).bind fun ws S1 => (doFrzs ws S1).bind fun ps S2 => match ps with
  | [.lst xs] => .ok (((List.range xs.length).zip xs).map fun q => .tup [.int (q.1 : Int), q.2]) S2
  | _ => .bad
theorem enumw {K : PySem.W.Frag} {F : Hp} {a : Addr} {xs : List V} {ps : List P} (h1 : F a = some (.lst xs)) (r1 : RepL K CT F ps xs) :
    WalkP K CT F (((List.range ps.length).zip ps).map fun q => P.tup [.int (q.1 : Int), q.2]) (Ite K a) := by
  refine ⟨fun H => SqL K H a xs, YPair (fun i => some (.int (i : Nat))) (fun i => xs[i]?), by rw [List.length_map, List.length_zip, List.length_range, Nat.min_self, ← r1.length]; exact walk_enum (xs := xs), fun H e => SqL.of (e _ _ h1), fun i H v H' hi e y => ?_⟩
  obtain ⟨T, x, z, rfl, hT, rfl, e1, e2⟩ := y
  cases e1
  obtain ⟨p, p1, p2⟩ := r1.get e2
  refine ⟨.tup [.int (i : Nat), p], ?_, .inr ⟨T, .tup [.int (i : Nat), z], hT, rfl, fun F' e f => ?_⟩⟩
  case refine_2 => exact pair_rep f rfl (p2.mono e)
  have hl := (List.getElem?_eq_some_iff.mp p1).1
  rw [List.getElem?_map]
  have : ((List.range ps.length).zip ps)[i]? = some (i, p) := by rw [List.getElem?_zip_eq_some]; exact ⟨List.getElem?_range hl, p1⟩
  rw [this]; rfl
theorem zi_enum {elts : List Expr} {kk : Nat} {tpos : Pos} (hg : Gl X "enumerate") (hm : X.mg "enumerate" = none) (ha : PZA X CT U [a] ga) (hs : starEach [a] X.env = [(false, eval a X.env)] := by rfl) : PZI X CT U (.Tuple elts kk tpos) (.Call (.Name "enumerate" p) [a] [] pos) (iEnum ga) :=
  weakI (pi_enum hg hm ha hs) fun σ H Rr ⟨s, S, ρ, gd, en, h⟩ => ⟨s, S, ρ, gd, en, RG.step h fun ws S1 s1 H1 vs x1 g1 r1 h1 => by
    obtain ⟨ps, S2, s2, x2, g2, r2, h2⟩ := RG.frzs g1 r1 h1
    split at h2
    · rename_i xs
      obtain ⟨v, _, rfl, rv, e⟩ := r2
      have e := show _ = [] from e
      subst e
      obtain ⟨a1, us, rfl, f1, l1⟩ := rv
      exact ⟨a1, us, rfl, SqL.of (g2.exF _ _ f1), RG.here h2 g2 (enumw f1 l1)⟩
    · exact h2.elim⟩
end
end Z
end
-- part Z5
section
set_option Elab.async false
set_option linter.all false
set_option maxRecDepth 100000
set_option autoImplicit false
namespace Z
open PySem PySem.Spec PyProof.Rows L2

/-! ### comprehensions -/
theorem wipe_wipe (σ : L2.St) (vs : List Nat) : L2.wipe (L2.wipe σ vs) vs = L2.wipe σ vs := by
  apply List.ext_getElem?
  intro k
  rw [wipe_get, wipe_get, wipe_length]
  split <;> simp_all
def noEx {α : Type} (r : RE α) : RE α := match r with
  | .ex _ _ => .bad
  | r => r
def lcGo (vs : List Nat) (t : Tg) (c : FE Bool) (e : FE W) (ρ : Env) : List P → Store → RE (List P)
  | [], S => .ok [] S
  | p :: ps, S => match bindT t p (wipeE ρ vs) with
    | none => .bad
    | some ρ1 => (noEx (c ρ1 S)).bind fun b S1 => if b = true then (noEx (e ρ1 S1)).bind fun w S2 => (doFrz w S2).bind fun q S3 => (lcGo vs t c e ρ ps S3).bind fun qs S4 => .ok (q :: qs) S4
      else lcGo vs t c e ρ ps S1
def eLc (fi : FI) (vs : List Nat) (t : Tg) (c : FE Bool) (e : FE W) : FE W := fun ρ S => (fi ρ S).bind fun ps S1 => if ps.length ≤ 100000 then (lcGo vs t c e ρ ps S1).bind fun qs S2 => .ok (.val (.lst qs)) S2 else .bad
def cYes : FE Bool := fun _ S => .ok true S
def U0 : WX := fun _ _ _ _ => False
section
variable {K : PySem.W.Frag} {CT : Str → Addr} {s : Fs} {S : Store} {H : Hp}
theorem RE.bind_bind {α β γ : Type} (r : RE α) (f : α → Store → RE β) (g : β → Store → RE γ) : (r.bind f).bind g = r.bind fun a S => (f a S).bind g := by cases r <;> rfl
theorem RE.ite_bind {α β : Type} {c : Prop} [Decidable c] (a b : RE α) (f : α → Store → RE β) : (if c then a else b).bind f = if c then a.bind f else b.bind f := by split <;> rfl
/-- run a part under another frame -/
theorem RG.runN {α β γ δ : Type} {Ra : Fs → α → γ → Prop} {Rb : Fs → β → δ → Prop} {s0 : Fs} {r : RE α} {k : α → Store → RE β} {Q : δ → Hp → Prop} {EX : Value → Option Addr → Hp → Prop} {Q1 : γ → Hp → Prop}
    (h : RG K CT Rb s ((noEx r).bind k) Q EX) (hk : ∀ a S1 s1 H1 b, r = .ok a S1 → Ext s0 s1 → Gd K CT s1 S1 H1 → Ra s1 a b → RG K CT Rb s (k a S1) Q EX → Q1 b H1) : RG K CT Ra s0 r Q1 (fun _ _ _ => False) := by
  cases r with
  | ok a S => exact fun s2 H2 b x g q => hk a S s2 H2 b rfl x g q h
  | ex x S => exact h.elim
  | bad => exact h.elim
/-- the frame with one more object -/
def Fs.fr (s : Fs) (D : Addr) (o : HO) : Fs := { s with G := upd s.G D o }
theorem Ext.unfr {s s' : Fs} {D : Addr} {o : HO} (x : Ext (s.fr D o) s') (hD : s.G D = none) (hF : s.F D = none) : Ext s { s' with G := s.G } ∧ s' = Fs.fr { s' with G := s.G } D o := by
  have e := x.g
  refine ⟨⟨rfl, x.f, x.m, fun a h1 h2 => x.new a h1 ?_⟩, ?_⟩
  · show upd s.G D o a ≠ none
    by_cases q : a = D
    · subst q; rw [upd_same]; simp
    · rw [upd_ne q]; exact h2
  · cases s'; simp only [Fs.fr] at e ⊢; rw [e]
theorem Ext.unfr2 {s s' : Fs} {D : Addr} {o : HO} (x : Ext (s.fr D o) s') (hD : s.G D = none) (hF : s.F D = none) : ∃ s2, s' = Fs.fr s2 D o ∧ Ext s s2 ∧ s2.F D = none := by
  obtain ⟨x1, e⟩ := x.unfr hD hF
  refine ⟨_, e, x1, x.new D hF (by show upd s.G D o D ≠ none; rw [upd_same]; simp)⟩
theorem RepWs.reG {G' : Hp} : ∀ {ws : List W} {vs : List V}, RepWs K CT s ws vs → RepWs K CT { s with G := G' } ws vs
  | [], _, h => h
  | .val p :: ws, _, ⟨v, vs', h1, h2, h3⟩ => ⟨v, vs', h1, h2, RepWs.reG h3⟩
  | .loc n :: ws, _, ⟨v, vs', h1, h2, h3⟩ => ⟨v, vs', h1, h2, RepWs.reG h3⟩
theorem RepW.reG {G' : Hp} {w : W} {v : V} (h : RepW K CT s w v) : RepW K CT { s with G := G' } w v := by
  cases w <;> exact h
theorem EnvOk.reG {G' : Hp} {ρ : Env} {σ : L2.St} (h : EnvOk K CT s ρ σ) : EnvOk K CT { s with G := G' } ρ σ := ⟨h.len, fun i w q => let ⟨v, h1, h2⟩ := h.get i w q; ⟨v, h1, h2.reG⟩⟩
theorem Gd.reG (g : Gd K CT s S H) {G' : Hp} (e : Ex G' H) (hl : ∀ (n : Nat) (c : Cell) (a : Addr), S[n]? = some c → s.m[n]? = some a → live c → G' a = none) : Gd K CT { s with G := G' } S H := by
  refine ⟨g.exF, e, g.len, fun n c a h1 h2 => ?_, g.inj⟩
  have q := g.cells n c a h1 h2
  cases c with
  | lst ws => obtain ⟨q1, q2, vs, q3, q4⟩ := q; exact ⟨q1, hl n _ a h1 h2 trivial, vs, q3, q4.reG⟩
  | ins c ns ws => obtain ⟨q1, q2, dx, vs, q3, ql, q4⟩ := q; exact ⟨q1, hl n _ a h1 h2 trivial, dx, vs, q3, ql, q4.reG⟩
  | frz p => exact q
theorem Gd.liveAt (g : Gd K CT s S H) {n : Nat} {c : Cell} {a : Addr} (h1 : S[n]? = some c) (h2 : s.m[n]? = some a) (hl : live c) : s.F a = none ∧ s.G a = none ∧ H a ≠ none := by
  have q := g.cells n c a h1 h2
  cases c with
  | lst ws => obtain ⟨q1, q2, vs, q3, q4⟩ := q; exact ⟨q1, q2, by rw [q3]; simp⟩
  | ins c ns ws => obtain ⟨q1, q2, dx, vs, q3, ql, q4⟩ := q; exact ⟨q1, q2, by rw [q3]; simp⟩
  | frz p => exact hl.elim
/-- the heap changes at D, which the state does not know -/
theorem Gd.other (g : Gd K CT s S H) {D : Addr} {o : HO} (hF : s.F D = none) (hG : s.G D = none) (hl : ∀ (n : Nat) (c : Cell) (a : Addr), S[n]? = some c → s.m[n]? = some a → live c → a ≠ D) : Gd K CT s S (upd H D o) := by
  refine ⟨Ex.mut g.exF hF, Ex.mut g.exG hG, g.len, fun n c a h1 h2 => ?_, g.inj⟩
  have q := g.cells n c a h1 h2
  cases c with
  | lst ws => obtain ⟨q1, q2, vs, q3, q4⟩ := q; exact ⟨q1, q2, vs, by rw [upd_ne (hl n _ a h1 h2 trivial)]; exact q3, q4⟩
  | ins c ns ws => obtain ⟨q1, q2, dx, vs, q3, ql, q4⟩ := q; exact ⟨q1, q2, dx, vs, by rw [upd_ne (hl n _ a h1 h2 trivial)]; exact q3, ql, q4⟩
  | frz p => exact q
/-- from now on D, which is known to nobody, holds o, and no part may touch it -/
theorem Gd.setFr (g : Gd K CT s S H) {D : Addr} {o : HO} (hF : s.F D = none) (hG : s.G D = none) (hl : ∀ (n : Nat) (c : Cell) (a : Addr), S[n]? = some c → s.m[n]? = some a → live c → a ≠ D) : Gd K CT (s.fr D o) S (upd H D o) :=
  (g.other (o := o) hF hG hl).reG (by
    intro a u e
    by_cases q : a = D
    · subst q; rw [upd_same] at e ⊢; exact e
    · rw [upd_ne q] at e ⊢; exact g.exG a u e) fun n c a h1 h2 l => by
    rw [upd_ne (hl n c a h1 h2 l)]; exact (g.liveAt h1 h2 l).2.1
theorem Gd.ofFr {D : Addr} {o : HO} (g : Gd K CT (s.fr D o) S H) (hG : s.G D = none) : Gd K CT s S H ∧ H D = some o ∧ ∀ (n : Nat) (c : Cell) (a : Addr), S[n]? = some c → s.m[n]? = some a → live c → a ≠ D := by
  have ne : ∀ (n : Nat) (c : Cell) (a : Addr), S[n]? = some c → s.m[n]? = some a → live c → a ≠ D := fun n c a h1 h2 l e => by
    subst e
    have := (g.liveAt h1 h2 l).2.1
    rw [show (s.fr a o).G a = _ from upd_same] at this
    cases this
  refine ⟨?_, g.exG _ _ upd_same, ne⟩
  have := g.reG (G' := s.G) (fun a u e => g.exG a u (by
    show upd s.G D o a = some u
    rw [upd_ne (ne_of_none e hG)]; exact e)) fun n c a h1 h2 l => by
      have q := (g.liveAt h1 h2 l).2.1
      rw [show (s.fr D o).G a = _ from upd_ne (ne n c a h1 h2 l)] at q
      exact q
  exact this
theorem Gd.adopt (g : Gd K CT s S H) {D : Addr} {o : HO} (hF : s.F D = none) (hG : s.G D = none) (hH : H D = some o) (ne : ∀ (n : Nat) (c : Cell) (a : Addr), S[n]? = some c → s.m[n]? = some a → live c → a ≠ D) :
    Gd K CT { s with F := upd s.F D o } S H ∧ Ext s { s with F := upd s.F D o } := by
  have x : Ext s { s with F := upd s.F D o } := ⟨rfl, Ex.new hF, fun _ _ h => h, fun b h1 h2 => by
    have : b ≠ D := fun e => h2 (by rw [e]; exact hG)
    show upd s.F D o b = none
    rw [upd_ne this]; exact h1⟩
  refine ⟨⟨fun a u e => ?_, g.exG, g.len, fun n c a h1 h2 => ?_, g.inj⟩, x⟩
  · have e' : upd s.F D o a = some u := e
    by_cases q : a = D
    · subst q; rw [upd_same] at e'; cases e'; exact hH
    · rw [upd_ne q] at e'; exact g.exF a u e'
  · have q := g.cells n c a h1 h2
    cases c with
    | lst ws => obtain ⟨q1, q2, vs, q3, q4⟩ := q; exact ⟨by show upd s.F D o a = none; rw [upd_ne (ne n _ a h1 h2 trivial)]; exact q1, q2, vs, q3, q4.mono x⟩
    | ins c ns ws => obtain ⟨q1, q2, dx, vs, q3, ql, q4⟩ := q; exact ⟨by show upd s.F D o a = none; rw [upd_ne (ne n _ a h1 h2 trivial)]; exact q1, q2, dx, vs, q3, ql, q4.mono x⟩
    | frz p => exact RepP.mono x.f q
theorem lc_turn {ps : List P} {p : P} {i : Nat} (h : ps[i]? = some p) : ps.drop i = p :: ps.drop (i + 1) := by
  obtain ⟨hl, e⟩ := List.getElem?_eq_some_iff.mp h
  rw [List.drop_eq_getElem_cons hl, e]
/-- the state of a comprehension's block: the new list at D -/
def LcSt (K : PySem.W.Frag) (CT : Str → Addr) (s1 : Fs) (D : Addr) (vs : List Nat) (t : Tg) (c : FE Bool) (e : FE W) (ρ : Env) (ps : List P) (Q : VK) (EX : Value → Option Addr → Hp → Prop) (i : Nat) (H : Hp) : Prop :=
  ∃ (s : Fs) (S : Store) (acc : List P) (vacc : List V), Ext s1 s ∧ Gd K CT (s.fr D (.lst vacc)) S H ∧ s.F D = none ∧ RepL K CT s.F acc vacc ∧ acc.length ≤ i ∧
    RG K CT (RepW K CT) s ((lcGo vs t c e ρ (ps.drop i) S).bind fun qs S2 => .ok (.val (.lst (acc ++ qs))) S2) Q EX
theorem lc_start {s1 : Fs} {D : Addr} {vs : List Nat} {t : Tg} {c : FE Bool} {e : FE W} {ρ : Env} {ps : List P} {Q : VK} {EX : Value → Option Addr → Hp → Prop} {S1 : Store} {H1 : Hp} (g : Gd K CT s1 S1 H1) (hD : H1 D = none)
    (h : RG K CT (RepW K CT) s1 ((lcGo vs t c e ρ ps S1).bind fun qs S2 => .ok (.val (.lst qs)) S2) Q EX) : LcSt K CT s1 D vs t c e ρ ps Q EX 0 (upd H1 D (.lst [])) :=
  ⟨s1, S1, [], [], Ext.refl _, g.setFr (g.exF.back hD) (g.exG.back hD) (fun n c a h1 h2 l z => (g.liveAt h1 h2 l).2.2 (by rw [z]; exact hD)), g.exF.back hD, rfl, Nat.le_refl _, h⟩
theorem lc_end {s1 : Fs} {D : Addr} {vs : List Nat} {t : Tg} {c : FE Bool} {e : FE W} {ρ : Env} {ps : List P} {Q : VK} {EX : Value → Option Addr → Hp → Prop} {H : Hp} {H1 : Hp} {S1 : Store} (g1 : Gd K CT s1 S1 H1) (hD : H1 D = none)
    (h : LcSt K CT s1 D vs t c e ρ ps Q EX ps.length H) : Q (.ref D) H := by
  obtain ⟨s, S, acc, vacc, x, g, hF, r, _, h⟩ := h
  rw [List.drop_length] at h
  have hG : s.G D = none := by rw [← x.g]; exact g1.exG.back hD
  obtain ⟨g', hH, ne⟩ := g.ofFr hG
  have h' : RG K CT (RepW K CT) s (.ok (.val (.lst (acc ++ []))) S) Q EX := h
  rw [List.append_nil] at h'
  obtain ⟨g2, x2⟩ := g'.adopt hF hG hH ne
  exact h' _ _ _ x2 g2 ⟨D, vacc, rfl, upd_same, r.mono x2.f⟩
end
section
variable {X : Cx} {CT : Str → Addr} {U : WX} {elt tg iter : Expr} {ifs : List Expr} {scope : Scope} {own : List (Str × Nat)} {pos : Pos} {fi : FI} {t : Tg} {c : FE Bool} {e : FE W}
theorem lc_go {s1 : Fs} {S1 : Store} {H1 : Hp} {D : Addr} {ρ : Env} {σ : L2.St} {ps : List P} {J : It} {Q : VK} {vs : List Nat} {EX : Value → Option Addr → Hp → Prop} (g1 : Gd X.K CT s1 S1 H1) (en : EnvOk X.K CT s1 ρ σ) (hD : H1 D = none) (hsz : ps.length ≤ 100000) (hsl : ∀ i ∈ slots t, i ∈ vs) (w : WalkP X.K CT s1.F ps J)
    (h : RG X.K CT (RepW X.K CT) s1 ((lcGo vs t c e ρ ps S1).bind fun qs S2 => .ok (.val (.lst qs)) S2) Q EX) :
    ∃ W : Nat → Nat → Hp → Prop, (∃ m, W 0 m (upd H1 D (.lst []))) ∧ ∀ i m H, W i m H →
      (J.stop i H ∧ Q (.ref D) H) ∨ (J.go i H ∧ ∃ Nx : Hp → Prop, (∀ H', Nx H' → ∃ m', m' < m ∧ W (i + 1) m' H') ∧ ∀ x H', J.yld i H x H' → tgG X.K t x (L2.wipe σ vs) H' fun σ2 H2 => L2.wipe σ2 vs = L2.wipe σ vs ∧ canT X.K CT U0 c σ2 H2 fun b H3 =>
        if b = true then canE X.K CT U0 e σ2 H3 fun y H4 => ∃ acc, H4 D = some (.lst acc) ∧ acc.length < sizeLine ∧ Nx (upd H4 D (.lst (acc ++ [y]))) else Nx H3) := by
  obtain ⟨G, Y, wk, hG, hY⟩ := w
  refine lc_it wk (Qd := fun H => Q (.ref D) H) (fun i H => LcSt X.K CT s1 D vs t c e ρ ps Q EX i H) (lc_start g1 hD h) (fun i H hi ⟨s, S, acc, vacc, x, g, _⟩ => hG H (x.f.trans g.exF)) ?_ (fun H q => lc_end g1 hD q)
  rintro i x H H' hi ⟨s, S, acc, vacc, x0, g, hF, r, hl, h⟩ y
  have hGD : s.G D = none := by rw [← x0.g]; exact g1.exG.back hD
  obtain ⟨p, ep, yo⟩ := hY i H x H' hi (x0.f.trans g.exF) y
  rw [lc_turn ep] at h
  -- the item
  obtain ⟨s2', x2', g2', rp'⟩ : ∃ s', Ext (s.fr D (.lst vacc)) s' ∧ Gd X.K CT s' S H' ∧ RepP X.K CT s'.F p x := by
    rcases yo with ⟨rfl, rp⟩ | ⟨T, o, hT, rfl, rp⟩
    · exact ⟨_, Ext.refl _, g, rp.mono x0.f⟩
    · obtain ⟨g', x'⟩ := g.newF hT o
      exact ⟨_, x', g', rp _ (x0.f.trans x'.f) upd_same⟩
  obtain ⟨s2, rfl, x2, hF2⟩ := x2'.unfr2 hGD hF
  have h := RG.ext x2 h
  unfold lcGo at h
  cases eb : bindT t p (wipeE ρ vs) with
  | none => rw [eb] at h; exact h.elim
  | some ρ1 =>
    rw [eb] at h
    have en2 : EnvOk X.K CT (s2.fr D (.lst vacc)) (wipeE ρ vs) (L2.wipe σ vs) := EnvOk.reG (((en.mono x0).mono x2).wipe vs)
    refine bind_ok t (s := s2.fr D (.lst vacc)) g2'.exF rp' en2 eb fun σ2 en3 hw => ⟨(hw vs hsl).trans (wipe_wipe σ vs), ?_⟩
    simp only [RE.bind_bind] at h
    refine ⟨_, S, ρ1, g2', en3, RG.runN h fun b S3 s3' H3 b' er x3 g3 rb h3 => ?_⟩
    have rb : b = b' := rb
    subst rb
    obtain ⟨s3, rfl, x3', hF3⟩ := x3.unfr2 (by rw [← x2.g]; exact hGD) hF2
    have h3 := RG.ext x3' h3
    have ee : RepL X.K CT s3.F acc vacc := r.mono (x2.f.trans x3'.f)
    cases b with
    | false =>
      exact ⟨s3, S3, acc, vacc, (x0.trans x2).trans x3', g3, hF3, ee, Nat.le_succ_of_le hl, by simpa using h3⟩
    | true =>
      simp only [if_true, RE.bind_bind] at h3
      refine ⟨_, S3, ρ1, g3, en3.mono x3, RG.runN h3 fun w S4 s4' H4 yv er4 x4 g4 rw h4 => ?_⟩
      obtain ⟨s4, rfl, x4', hF4⟩ := x4.unfr2 (by rw [← x3'.g, ← x2.g]; exact hGD) hF3
      have h4 := RG.ext x4' h4
      have hG4 : s4.G D = none := by rw [← x4'.g, ← x3'.g, ← x2.g]; exact hGD
      cases ef : frz S4 w with
      | none => unfold doFrz at h4; rw [ef] at h4; exact h4.elim
      | some q =>
        obtain ⟨q, S5⟩ := q
        unfold doFrz at h4
        rw [ef] at h4
        obtain ⟨s5', x5, g5, r5⟩ := frz_ok g4 rw ef
        obtain ⟨s5, rfl, x5', hF5⟩ := x5.unfr2 hG4 hF4
        have h5 := RG.ext x5' h4
        obtain ⟨g5', hD5, ne5⟩ := g5.ofFr (by rw [← x5'.g]; exact hG4)
        have le := (ee.mono (x4'.f.trans x5'.f))
        refine ⟨vacc, hD5, by rw [ee.length]; exact sz5' (by omega), s5, S5, acc ++ [q], vacc ++ [yv], (((x0.trans x2).trans x3').trans x4').trans x5', ?_, hF5, le.append ⟨yv, [], rfl, r5, rfl⟩, by simp; omega, ?_⟩
        · exact g5'.setFr hF5 (by rw [← x5'.g]; exact hG4) ne5
        · simp only [RE.bind] at h5 ⊢
          simp only [List.append_assoc, List.singleton_append]
          exact h5
theorem pz_lc (hc : X.calm = true) (hN : X.N.Nodup) (hi : PZI X CT U tg iter fi) (ok : BlkOk X.N X.env.scope scope own)
    (hg : ∀ (s : Shared) (H : Hp) (C : Addr) (cl : List (Str × Addr)) (fp : List Addr), PG (X.blk s H scope (compEnvC scope cl C X.env) fp) tg (tgG X.K t)) (ht : ∀ (s : Shared) (H : Hp) (C : Addr) (cl : List (Str × Addr)) (fp : List Addr), PTs (X.blk s H scope (compEnvC scope cl C X.env) fp) ifs (canT X.K CT U0 c))
    (he : ∀ (s : Shared) (H : Hp) (C : Addr) (cl : List (Str × Addr)) (fp : List Addr), PE (X.blk s H scope (compEnvC scope cl C X.env) fp) elt (canE X.K CT U0 e)) (hsl : ∀ i ∈ slots t, i ∈ own.map (·.2)) (hs : ∀ x, foldedSetIterable iter X.env x = pure x := by intro _; rfl) :
    PZ X CT U (.ListComp elt [⟨tg, iter, ifs, 0⟩] scope pos) (eLc fi (own.map (·.2)) t c e) := weakE (pe_lc hc hN hi ok hg ht he hs) fun σ H Q ⟨s, S, ρ, gd, en, h⟩ =>
  ⟨s, S, ρ, gd, en, RG.step h fun ps S1 s1 H1 J x1 g1 w1 h1 D hD => by
    split at h1
    · rename_i hsz
      exact lc_go g1 (en.mono x1) hD hsz hsl w1 h1
    · exact h1.elim⟩
theorem zts_nil : PTs X [] (canT X.K CT U0 cYes) := ⟨fun pins s σ H Q I ⟨s0, S, ρ, gd, en, h⟩ => pts_nil.run pins s σ H Q I (RG.here h gd rfl)⟩
theorem zts_one {cnd : Expr} (h : PZT X CT U0 cnd c) : PTs X [cnd] (canT X.K CT U0 c) := pts_one h
end
end Z
end
-- part Z6
section
set_option Elab.async false
set_option linter.all false
set_option maxRecDepth 100000
set_option autoImplicit false
namespace Z
open PySem PySem.Spec PyProof.Rows L2

/-! ### statements -/
def RS (K : PySem.W.Frag) (CT : Str → Addr) (s : Fs) (r : R) (D : Ends) (U : WX) : Prop := match r with
  | .nx ρ' S' => ∀ s' H' σ', Ext s s' → Gd K CT s' S' H' → EnvOk K CT s' ρ' σ' → D.nx σ' H'
  | .bk ρ' S' => ∀ s' H' σ', Ext s s' → Gd K CT s' S' H' → EnvOk K CT s' ρ' σ' → D.bk σ' H'
  | .ct ρ' S' => ∀ s' H' σ', Ext s s' → Gd K CT s' S' H' → EnvOk K CT s' ρ' σ' → D.ct σ' H'
  | .rt w S' => ∀ s' H' v, Ext s s' → Gd K CT s' S' H' → RepW K CT s' w v → D.rt v H'
  | .ex x ρ' S' => ∀ s' H' σ' c dd, Ext s s' → Gd K CT s' S' H' → EnvOk K CT s' ρ' σ' → RepX K CT s'.F x c dd → U c dd σ' H'
  | .bad => False
def canS (K : PySem.W.Frag) (CT : Str → Addr) (U : WX) (f : FS) : TS := fun D σ H => ∃ s S ρ, Gd K CT s S H ∧ EnvOk K CT s ρ σ ∧ RS K CT s (f ρ S) D U
abbrev PZS (X : Cx) (CT : Str → Addr) (U : WX) (st : Stmt) (f : FS) : Prop := PS X st (canS X.K CT U f)
abbrev PZSs (X : Cx) (CT : Str → Addr) (U : WX) (st : List Stmt) (f : FS) : Prop := PSs X st (canS X.K CT U f)
theorem weakS {X : Cx} {e : Stmt} {t t' : TS} (h : PS X e t) (w : ∀ D σ H, t' D σ H → t D σ H) : PS X e t' := ⟨fun pins s σ H D I q => h.run pins s σ H D I (w D σ H q)⟩
theorem weakSs {X : Cx} {e : List Stmt} {t t' : TS} (h : PSs X e t) (w : ∀ D σ H, t' D σ H → t D σ H) : PSs X e t' := ⟨fun pins s σ H D I q => h.run pins s σ H D I (w D σ H q)⟩
def sSeq (f g : FS) : FS := fun ρ S => match f ρ S with
  | .nx ρ' S' => g ρ' S'
  | r => r
/-- an expression's result, then a statement's -/
def RE.toR {α : Type} (r : RE α) (ρ : Env) (k : α → Store → R) : R := match r with
  | .ok a S => k a S
  | .ex x S => .ex x ρ S
  | .bad => .bad
def sSkip : FS := fun ρ S => .nx ρ S
def sAsg (i : Nat) (f : FE W) : FS := fun ρ S => (f ρ S).toR ρ fun w S' => .nx (ρ.set i (some w)) S'
/-- targets of any form: the value as data -/
def sAsgT (t : Tg) (f : FE W) : FS := fun ρ S => (f ρ S).toR ρ fun w S' => (doFrz w S').toR ρ fun p S2 => match bindT t p ρ with
  | some ρ' => .nx ρ' S2
  | none => .bad
def sExpr (f : FE W) : FS := fun ρ S => (f ρ S).toR ρ fun _ S' => .nx ρ S'
def sRet (f : FE W) : FS := fun ρ S => (f ρ S).toR ρ fun w S' => .rt w S'
def sIf (c : FE Bool) (f g : FS) : FS := fun ρ S => (c ρ S).toR ρ fun b S' => if b = true then f ρ S' else g ρ S'
section
variable {K : PySem.W.Frag} {CT : Str → Addr} {s s' : Fs} {S : Store} {H : Hp} {U : WX}
theorem RS.ext {r : R} {D : Ends} (e : Ext s s') (h : RS K CT s r D U) : RS K CT s' r D U := by
  cases r with
  | nx ρ' S' => exact fun s2 H2 σ2 x => h s2 H2 σ2 (e.trans x)
  | bk ρ' S' => exact fun s2 H2 σ2 x => h s2 H2 σ2 (e.trans x)
  | ct ρ' S' => exact fun s2 H2 σ2 x => h s2 H2 σ2 (e.trans x)
  | rt ρ' S' => exact fun s2 H2 σ2 x => h s2 H2 σ2 (e.trans x)
  | ex x ρ' S' => exact fun s2 H2 σ2 c dd x => h s2 H2 σ2 c dd (e.trans x)
  | bad => exact h
theorem RS.here {ρ : Env} {σ : L2.St} {D : Ends} (h : RS K CT s (.nx ρ S) D U) (g : Gd K CT s S H) (en : EnvOk K CT s ρ σ) : D.nx σ H := h s H σ (Ext.refl s) g en
/-- the parts of a statement, an expression first -/
theorem RS.step {α γ : Type} {Ra : Fs → α → γ → Prop} {r : RE α} {ρ : Env} {σ : L2.St} {k : α → Store → R} {D : Ends} {Q : γ → Hp → Prop} (h : RS K CT s (r.toR ρ k) D U) (en : EnvOk K CT s ρ σ)
    (hk : ∀ a S1 s1 H1 b, Ext s s1 → Gd K CT s1 S1 H1 → Ra s1 a b → RS K CT s1 (k a S1) D U → Q b H1) : RG K CT Ra s r Q (fun c d H' => U c d σ H') := by
  cases r with
  | ok a S => exact fun s2 H2 b x g q => hk a S s2 H2 b x g q (RS.ext x h)
  | ex x S => exact fun s2 H2 c dd x g q => h s2 H2 σ c dd x g (en.mono x) q
  | bad => exact h
theorem seq_can {f g : FS} {D : Ends} {σ : L2.St} (h : canS K CT U (sSeq f g) D σ H) : canS K CT U f { D with nx := canS K CT U g D } σ H := by
  obtain ⟨s, S, ρ, gd, en, h⟩ := h
  refine ⟨s, S, ρ, gd, en, ?_⟩
  unfold sSeq at h
  cases er : f ρ S with
  | nx ρ' S' => rw [er] at h; exact fun s' H' σ' x g' e' => ⟨s', S', ρ', g', e', RS.ext x h⟩
  | bk ρ' S' => rw [er] at h; exact h
  | ct ρ' S' => rw [er] at h; exact h
  | rt ρ' S' => rw [er] at h; exact h
  | ex x ρ' S' => rw [er] at h; exact h
  | bad => rw [er] at h; exact h
end
section
variable {X : Cx} {CT : Str → Addr} {U : WX} {st : Stmt} {sts : List Stmt} {f g : FS} {e : Expr} {fe : FE W} {pos : Pos} {c : Expr} {fc : FE Bool}
theorem zss_nil : PZSs X CT U [] sSkip := weakSs pss_nil fun D σ H ⟨s, S, ρ, gd, en, h⟩ => RS.here h gd en
theorem zss_cons (h1 : PZS X CT U st f) (h2 : PZSs X CT U sts g) : PZSs X CT U (st :: sts) (sSeq f g) := weakSs (pss_cons h1 h2) fun D σ H h => seq_can h
theorem zss_one (h1 : PZS X CT U st f) : PZSs X CT U [st] f := pss_one h1
theorem zs_pass : PZS X CT U (.Pass pos) sSkip := weakS ps_pass fun D σ H ⟨s, S, ρ, gd, en, h⟩ => RS.here h gd en
theorem zs_doc {x : Str} {j : Nat} {pos' : Pos} : PZS X CT U (.Expr (.Constant (.str x) j pos) pos') sSkip := weakS ps_doc fun D σ H ⟨s, S, ρ, gd, en, h⟩ => RS.here h gd en
def sBrk : FS := fun ρ S => .bk ρ S
def sCnt : FS := fun ρ S => .ct ρ S
theorem zs_break : PZS X CT U (.Break pos) sBrk := weakS ps_break fun D σ H ⟨s, S, ρ, gd, en, h⟩ => h s H σ (Ext.refl s) gd en
theorem zs_continue : PZS X CT U (.Continue pos) sCnt := weakS ps_continue fun D σ H ⟨s, S, ρ, gd, en, h⟩ => h s H σ (Ext.refl s) gd en
theorem zs_expr (he : PZ X CT U e fe) (hs : swapsWith e none pos.line X.env = pure false := by rfl) : PZS X CT U (.Expr e pos) (sExpr fe) := weakS (ps_expr he hs) fun D σ H ⟨s, S, ρ, gd, en, h⟩ =>
  ⟨s, S, ρ, gd, en, RS.step h en fun w S1 s1 H1 v x1 g1 r1 h1 => RS.here h1 g1 (en.mono x1)⟩
theorem zs_ret (he : PZ X CT U e fe) : PZS X CT U (.Return (some e) pos) (sRet fe) := weakS (ps_ret he) fun D σ H ⟨s, S, ρ, gd, en, h⟩ =>
  ⟨s, S, ρ, gd, en, RS.step h en fun w S1 s1 H1 v x1 g1 r1 h1 => h1 s1 H1 v (Ext.refl _) g1 r1⟩
def sRetN : FS := fun _ S => .rt (.val .non) S
theorem zs_retN : PZS X CT U (.Return none pos) sRetN := weakS ps_retN fun D σ H ⟨s, S, ρ, gd, en, h⟩ => h s H _ (Ext.refl s) gd rfl
theorem asg_can {i : Nat} {D : Ends} {σ : L2.St} {H : Hp} (h : canS X.K CT U (sAsg i fe) D σ H) : tAsg (canE X.K CT U fe) (gName i) D σ H := by
  obtain ⟨s, S, ρ, gd, en, h⟩ := h
  exact ⟨s, S, ρ, gd, en, RS.step h en fun w S1 s1 H1 v x1 g1 r1 h1 => RS.here h1 g1 ((en.mono x1).set r1)⟩
theorem zs_set (i : Nat) {x : Str} {pos' : Pos} (he : PZ X CT U e fe) (hN : X.N.Nodup) (hi : X.N[i]? = some x := by rfl) (hx : Loc X.env.scope x := by first | exact Or.inl rfl | exact Or.inr rfl) (hs : swapsWith e (some (.Name x pos')) pos.line X.env = pure false := by rfl) (hf : X.fn x = true ∨ X.env.scope.names.lookup x = some .local := by first | exact .inl rfl | exact .inr rfl | assumption) :
    PZS X CT U (.Assign [.Name x pos'] e pos) (sAsg i fe) := weakS (ps_set hN hi hx he hs hf) fun D σ H h => asg_can h
theorem zs_asgT {tg : Expr} {t : Tg} (he : PZ X CT U e fe) (hg : PG X tg (tgG X.K t)) (hs : swapsWithSole [tg] e pos.line X.env = pure false := by rfl) (hw : swappedStores [tg] e X.env = pure none := by rfl)
    (h1 : (assignEach [tg] X.env).map (·.2) = [assign tg X.env] := by rfl) : PZS X CT U (.Assign [tg] e pos) (sAsgT t fe) := weakS (ps_asg he hg hs hw h1) fun D σ H ⟨s, S, ρ, gd, en, h⟩ =>
  ⟨s, S, ρ, gd, en, RS.step h en fun w S1 s1 H1 v x1 g1 r1 h1 => by
    unfold doFrz at h1
    cases ef : frz S1 w with
    | none => rw [ef] at h1; exact h1.elim
    | some q =>
      obtain ⟨p, S2⟩ := q
      rw [ef] at h1
      obtain ⟨s2, x2, g2, r2⟩ := frz_ok g1 r1 ef
      have h2 := RS.ext x2 h1
      simp only [RE.toR] at h2
      cases eb : bindT t p ρ with
      | none => rw [eb] at h2; exact h2.elim
      | some ρ' =>
        rw [eb] at h2
        exact bind_ok t g2.exF r2 ((en.mono x1).mono x2) eb fun σ' en' _ => RS.here h2 g2 en'⟩
theorem zs_if {a b : List Stmt} (hc : PZT X CT U c fc) (ha : PZSs X CT U a f) (hb : PZSs X CT U b g) : PZS X CT U (.If c a b pos) (sIf fc f g) := weakS (ps_if hc ha hb) fun D σ H ⟨s, S, ρ, gd, en, h⟩ =>
  ⟨s, S, ρ, gd, en, RS.step h en fun k S1 s1 H1 v x1 g1 r1 h1 => by
    have r1 : k = v := r1
    subst r1
    cases k with
    | true => exact ⟨s1, S1, ρ, g1, en.mono x1, h1⟩
    | false => exact ⟨s1, S1, ρ, g1, en.mono x1, h1⟩⟩
/-! for -/
def forGo (t : Tg) (body : FS) : List P → Env → Store → R
  | [], ρ, S => .nx ρ S
  | p :: ps, ρ, S => match bindT t p ρ with
    | none => .bad
    | some ρ1 => match body ρ1 S with
      | .nx ρ2 S2 => forGo t body ps ρ2 S2
      | .ct ρ2 S2 => forGo t body ps ρ2 S2
      | .bk ρ2 S2 => .nx ρ2 S2
      | r => r
def sFor (fi : FI) (t : Tg) (body : FS) : FS := fun ρ S => (fi ρ S).toR ρ fun ps S1 => forGo t body ps ρ S1
def LoopSt (K : PySem.W.Frag) (CT : Str → Addr) (U : WX) (s1 : Fs) (t : Tg) (body : FS) (ps : List P) (D : Ends) (i : Nat) (σ : L2.St) (H : Hp) : Prop :=
  ∃ (s : Fs) (S : Store) (ρ : Env), Ext s1 s ∧ Gd K CT s S H ∧ EnvOk K CT s ρ σ ∧ RS K CT s (forGo t body (ps.drop i) ρ S) D U
theorem for_can {fi : FI} {t : Tg} {D : Ends} {σ : L2.St} {H : Hp} (h : canS X.K CT U (sFor fi t f) D σ H) : tFor (canI X.K CT U fi) (tgG X.K t) (canS X.K CT U f) D σ H := by
  obtain ⟨s, S, ρ, gd, en, h⟩ := h
  refine ⟨s, S, ρ, gd, en, RS.step h en fun ps S1 s1 H1 J x1 g1 w1 h1 => ?_⟩
  obtain ⟨G, Y, wk, hG, hY⟩ := w1
  refine for_it wk (LoopSt X.K CT U s1 t f ps D) ⟨s1, S1, ρ, Ext.refl _, g1, en.mono x1, h1⟩ (fun i σ H hi ⟨s, S, ρ, x, g, _, _⟩ => hG H (x.f.trans g.exF)) ?_ ?_
  · rintro i x σ2 H2 H3 hi ⟨s2, S2, ρ2, x2, g2, en2, h2⟩ y
    obtain ⟨p, ep, yo⟩ := hY i H2 x H3 hi (x2.f.trans g2.exF) y
    rw [lc_turn ep] at h2
    obtain ⟨s3, x3, g3, rp⟩ : ∃ s3, Ext s2 s3 ∧ Gd X.K CT s3 S2 H3 ∧ RepP X.K CT s3.F p x := by
      rcases yo with ⟨rfl, rp⟩ | ⟨T, o, hT, rfl, rp⟩
      · exact ⟨s2, Ext.refl _, g2, rp.mono x2.f⟩
      · obtain ⟨g', x'⟩ := g2.newF hT o
        exact ⟨_, x', g', rp _ (x2.f.trans x'.f) upd_same⟩
    have h3 := RS.ext x3 h2
    unfold forGo at h3
    cases eb : bindT t p ρ2 with
    | none => rw [eb] at h3; exact h3.elim
    | some ρ3 =>
      rw [eb] at h3
      simp only at h3
      refine bind_ok t g3.exF rp (en2.mono x3) eb fun σ3 en3 _ => ⟨s3, S2, ρ3, g3, en3, ?_⟩
      cases er : f ρ3 S2 with
      | nx ρ4 S4 => rw [er] at h3; exact fun s4 H4 σ4 x4 g4 en4 => ⟨s4, S4, ρ4, (x2.trans x3).trans x4, g4, en4, RS.ext x4 h3⟩
      | ct ρ4 S4 => rw [er] at h3; exact fun s4 H4 σ4 x4 g4 en4 => ⟨s4, S4, ρ4, (x2.trans x3).trans x4, g4, en4, RS.ext x4 h3⟩
      | bk ρ4 S4 => rw [er] at h3; exact h3
      | rt ρ4 S4 => rw [er] at h3; exact h3
      | ex x ρ4 S4 => rw [er] at h3; exact h3
      | bad => rw [er] at h3; exact h3
  · rintro σ2 H2 ⟨s2, S2, ρ2, x2, g2, en2, h2⟩
    rw [List.drop_length] at h2
    exact RS.here h2 g2 en2
theorem zs_for {tg iter : Expr} {body : List Stmt} {fi : FI} {t : Tg} (hp : PassesOwn (model X.prog X.w) X.A X.env X.xe) (hc : X.calm = true) (hi : PZI X CT U tg iter fi) (hg : PG X tg (tgG X.K t)) (hb : PZSs X CT U body f)
    (hs : ∀ x, foldedSetIterable iter X.env x = pure x := by intro _; rfl) : PZS X CT U (.For tg iter body [] pos) (sFor fi t f) := weakS (ps_for hp hc hi hg hb hs) fun D σ H h => for_can h
/-! while -/
def whileGo (c : FE Bool) (body : FS) : Nat → Env → Store → Option R
  | 0, _, _ => none
  | n + 1, ρ, S => match c ρ S with
    | .ok true S1 => match body ρ S1 with
      | .nx ρ2 S2 => whileGo c body n ρ2 S2
      | .ct ρ2 S2 => whileGo c body n ρ2 S2
      | .bk ρ2 S2 => some (.nx ρ2 S2)
      | r => some r
    | .ok false S1 => some (.nx ρ S1)
    | .ex x S1 => some (.ex x ρ S1)
    | .bad => some .bad
open Classical in
noncomputable def sWhile (c : FE Bool) (body : FS) : FS := fun ρ S => if h : ∃ n r, whileGo c body n ρ S = some r then h.choose_spec.choose else .bad
theorem whileGo_mono {c : FE Bool} {body : FS} : ∀ {n : Nat} {ρ : Env} {S : Store} {r : R}, whileGo c body n ρ S = some r → whileGo c body (n + 1) ρ S = some r
  | 0, _, _, _, h => by cases h
  | n + 1, ρ, S, r, h => by
    unfold whileGo at h ⊢
    split at h <;> try exact h
    split at h <;> first | exact h | exact whileGo_mono h
theorem whileGo_le {c : FE Bool} {body : FS} {n : Nat} {ρ : Env} {S : Store} {r : R} (h : whileGo c body n ρ S = some r) : ∀ k, whileGo c body (n + k) ρ S = some r
  | 0 => h
  | k + 1 => whileGo_mono (whileGo_le h k)
theorem sWhile_eq {c : FE Bool} {body : FS} {n : Nat} {ρ : Env} {S : Store} {r : R} (h : whileGo c body n ρ S = some r) : sWhile c body ρ S = r := by
  have ex : ∃ n r, whileGo c body n ρ S = some r := ⟨n, r, h⟩
  unfold sWhile
  rw [dif_pos ex]
  have h2 := ex.choose_spec.choose_spec
  have a := whileGo_le h (ex.choose)
  have b := whileGo_le h2 n
  rw [Nat.add_comm] at b
  rw [a] at b
  exact (Option.some.inj b).symm
theorem while_can {fc : FE Bool} {D : Ends} {σ : L2.St} {H : Hp} (h : canS X.K CT U (sWhile fc f) D σ H) : tWhile (canT X.K CT U fc) (canS X.K CT U f) D σ H := by
  obtain ⟨s, S, ρ, gd, en, h⟩ := h
  by_cases ex : ∃ n r, whileGo fc f n ρ S = some r
  · obtain ⟨n, r, e⟩ := ex
    rw [sWhile_eq e] at h
    refine ⟨fun m σ H => ∃ s S ρ r, Gd X.K CT s S H ∧ EnvOk X.K CT s ρ σ ∧ whileGo fc f m ρ S = some r ∧ RS X.K CT s r D U, ⟨n, s, S, ρ, r, gd, en, e, h⟩, ?_⟩
    rintro m σ H ⟨s, S, ρ, r, gd, en, e, h⟩
    cases m with
    | zero => cases e
    | succ m =>
      refine ⟨s, S, ρ, gd, en, ?_⟩
      unfold whileGo at e
      cases ec : fc ρ S with
      | bad => rw [ec] at e; cases e; exact h.elim
      | ex x S1 => rw [ec] at e; cases e; exact fun s2 H2 c dd x g q => h s2 H2 σ c dd x g (en.mono x) q
      | ok b S1 =>
        rw [ec] at e
        intro s1 H1 b' x1 g1 rb
        have rb : b = b' := rb
        subst rb
        cases b with
        | false => cases e; exact RS.here (RS.ext x1 h) g1 (en.mono x1)
        | true =>
          simp only at e
          refine ⟨fun σ' H' => ∃ s S ρ, Gd X.K CT s S H' ∧ EnvOk X.K CT s ρ σ' ∧ whileGo fc f m ρ S = some r ∧ RS X.K CT s r D U, fun σ' H' ⟨s, S, ρ, g, en, e, h⟩ => ⟨m, Nat.lt_succ_self m, s, S, ρ, r, g, en, e, h⟩, ?_⟩
          refine ⟨s1, S1, ρ, g1, en.mono x1, ?_⟩
          have h1 := RS.ext x1 h
          cases er : f ρ S1 with
          | nx ρ2 S2 => rw [er] at e; exact fun s2 H2 σ2 x2 g2 en2 => ⟨s2, S2, ρ2, g2, en2, e, RS.ext x2 h1⟩
          | ct ρ2 S2 => rw [er] at e; exact fun s2 H2 σ2 x2 g2 en2 => ⟨s2, S2, ρ2, g2, en2, e, RS.ext x2 h1⟩
          | bk ρ2 S2 => rw [er] at e; cases e; exact h1
          | rt w S2 => rw [er] at e; cases e; exact h1
          | ex x ρ2 S2 => rw [er] at e; cases e; exact h1
          | bad => rw [er] at e; cases e; exact h1
  · unfold sWhile at h
    rw [dif_neg ex] at h
    exact h.elim
theorem zs_while {body : List Stmt} (hp : PassesOwn (model X.prog X.w) X.A X.env X.xe) (hc : PZT X CT U c fc) (hb : PZSs X CT U body f) : PZS X CT U (.While c body [] pos) (sWhile fc f) := weakS (ps_while hp hc hb) fun D σ H h => while_can h
/-! x += e, x -= e -/
def sAug (i : Nat) (op : O2) (fe : FE W) : FS := fun ρ S => match ρ[i]? with
  | some (some a) => (fe ρ S).toR ρ fun b S1 => (op a b S1).toR ρ fun w S2 => .nx (ρ.set i (some w)) S2
  | _ => .bad
def IpZ (K : PySem.W.Frag) (CT : Str → Addr) (r : TIp) (op : O2) : Prop := ∀ (s : Fs) (S : Store) (H : Hp) (a b : W) (x y : V) (Q : VK) (EX : Value → Option Addr → Hp → Prop),
  Gd K CT s S H → RepW K CT s a x → RepW K CT s b y → RG K CT (RepW K CT) s (op a b S) Q EX → r x y H Q
theorem zs_aug (i : Nat) {x : Str} {op : Operator} {ti : TIp} {g : O2} {pos' : Pos} (he : PZ X CT U e fe) (ho : PIp X op ti) (hz : IpZ X.K CT ti g) (hN : X.N.Nodup) (hi : X.N[i]? = some x := by rfl) (hx : Loc X.env.scope x := by first | exact Or.inl rfl | exact Or.inr rfl) (hf : X.fn x = true ∨ X.env.scope.names.lookup x = some .local := by first | exact .inl rfl | exact .inr rfl | assumption) :
    PZS X CT U (.AugAssign (.Name x pos') op e pos) (sAug i g fe) := weakS (ps_aug hN hi hx he ho hf) fun D σ H ⟨s, S, ρ, gd, en, h⟩ => by
  unfold sAug at h
  cases ei : ρ[i]? with
  | none => rw [ei] at h; exact h.elim
  | some o =>
    cases o with
    | none => rw [ei] at h; exact h.elim
    | some a =>
      rw [ei] at h
      obtain ⟨v, hv, rv⟩ := en.get i a ei
      refine ⟨v, hv, s, S, ρ, gd, en, RS.step h en fun b S1 s1 H1 y x1 g1 r1 h1 => ?_⟩
      refine hz s1 S1 H1 a b v y _ _ g1 (rv.mono x1) r1 (RS.step h1 (en.mono x1) fun w S2 s2 H2 z x2 g2 r2 h2 => ?_)
      exact RS.here h2 g2 (((en.mono x1).mono x2).set r2)
theorem ipz_int {K : PySem.W.Frag} {f : Int → Int → Int} {op : O2} (hf : ∀ i j S, op (.val (.int i)) (.val (.int j)) S = .ok (.val (.int (f i j))) S) (hn : ∀ a b S, (∃ i j, a = .val (.int i) ∧ b = .val (.int j)) ∨ op a b S = .bad) : IpZ K CT (ipI f) op := fun s S H a b x y Q EX gd ra rb h => by
  rcases hn a b S with ⟨i, j, rfl, rfl⟩ | e
  · rw [hf] at h
    exact ⟨i, j, ra, rb, RG.here h gd rfl⟩
  · rw [e] at h; exact h.elim
end
end Z
end
-- part Z7
section
set_option Elab.async false
set_option linter.all false
set_option maxRecDepth 100000
set_option autoImplicit false
namespace Z
open PySem PySem.Spec PyProof.Rows L2

/-! ### fields -/
def lookA {α : Type} (f : Str) (ns : List Str) (xs : List α) : Option α := (ns.zip xs).lookup f
section
variable {K : PySem.W.Frag} {CT : Str → Addr} {s : Fs} {F : Hp}
theorem lookW {f : Str} : ∀ {ns : List Str} {ws : List W} {vs : List V} {w : W}, RepWs K CT s ws vs → lookA f ns ws = some w → ∃ v, (ns.zip vs).lookup f = some v ∧ RepW K CT s w v
  | [], _, _, _, _, e => by simp [lookA] at e
  | _ :: _, [], _, _, _, e => by simp [lookA] at e
  | n :: ns, w :: ws, _, _, ⟨v, vs', rfl, h2, h3⟩, e => by
    unfold lookA at e
    rw [List.zip_cons_cons, List.lookup_cons] at e ⊢
    cases q : f == n with
    | true => rw [q] at e; cases e; exact ⟨v, rfl, h2⟩
    | false => rw [q] at e; exact lookW h3 e
theorem lookPs {f : Str} : ∀ {ns : List Str} {ws : List P} {vs : List V} {w : P}, RepL K CT F ws vs → lookA f ns ws = some w → ∃ v, (ns.zip vs).lookup f = some v ∧ RepP K CT F w v
  | [], _, _, _, _, e => by simp [lookA] at e
  | _ :: _, [], _, _, _, e => by simp [lookA] at e
  | n :: ns, w :: ws, _, _, ⟨v, vs', rfl, h2, h3⟩, e => by
    unfold lookA at e
    rw [List.zip_cons_cons, List.lookup_cons] at e ⊢
    cases q : f == n with
    | true => rw [q] at e; cases e; exact ⟨v, rfl, h2⟩
    | false => rw [q] at e; exact lookPs h3 e
theorem look_none {m : Str} : ∀ {ns : List Str} {vs : List V}, ns.contains m = false → (ns.zip vs).lookup m = none
  | [], _, _ => by simp
  | _ :: _, [], _ => by simp
  | n :: ns, v :: vs, h => by
    rw [List.contains_cons, Bool.or_eq_false_iff] at h
    rw [List.zip_cons_cons, List.lookup_cons, h.1]
    exact look_none h.2
end
def putN (f : Str) : List Str → List Str
  | [] => [f]
  | g :: r => if g = f then g :: r else g :: putN f r
def putA {α : Type} (f : Str) (x : α) : List Str → List α → List α
  | [], _ => [x]
  | _ :: _, [] => []
  | g :: r, y :: ys => if g = f then x :: ys else y :: putA f x r ys
theorem putN_len {α : Type} (f : Str) (x : α) : ∀ {ns : List Str} {ys : List α}, ns.length = ys.length → (putN f ns).length = (putA f x ns ys).length
  | [], [], _ => rfl
  | [], _ :: _, h => by simp at h
  | _ :: _, [], h => by simp at h
  | g :: r, y :: ys, h => by
    have h' : r.length = ys.length := by simpa using h
    unfold putN putA
    split
    · simp [h']
    · simp [putN_len f x h']
theorem putF_zip (f : Str) (v : V) : ∀ {ns : List Str} {vs : List V}, ns.length = vs.length → putF f v (ns.zip vs) = (putN f ns).zip (putA f v ns vs)
  | [], [], _ => rfl
  | [], _ :: _, h => by simp at h
  | _ :: _, [], h => by simp at h
  | g :: r, y :: ys, h => by
    have h' : r.length = ys.length := by simpa using h
    rw [List.zip_cons_cons]
    unfold putF putN putA
    split
    · rfl
    · rw [putF_zip f v h']; rfl
theorem RepWs.put {K : PySem.W.Frag} {CT : Str → Addr} {s : Fs} {f : Str} {w : W} {v : V} (hw : RepW K CT s w v) : ∀ {ns : List Str} {ws : List W} {vs : List V}, ns.length = ws.length → RepWs K CT s ws vs → RepWs K CT s (putA f w ns ws) (putA f v ns vs)
  | [], _, _, _, _ => ⟨v, [], rfl, hw, rfl⟩
  | _ :: _, [], _, h, _ => by simp at h
  | g :: r, y :: ys, _, h, ⟨v', vs', h1, h2, h3⟩ => by
    have h' : r.length = ys.length := by simpa using h
    subst h1
    unfold putA
    split
    · exact ⟨v, vs', rfl, hw, h3⟩
    · exact ⟨v', _, rfl, h2, RepWs.put hw h' h3⟩
def fldOf (c f : Str) (S : Store) : W → Option W
  | .val (.obj c' ns ps) => if c' = c then (lookA f ns ps).map .val else none
  | .loc n => match S[n]? with
    | some (.ins c' ns ws) => if c' = c then lookA f ns ws else none
    | some (.frz (.obj c' ns ps)) => if c' = c then (lookA f ns ps).map .val else none
    | _ => none
  | _ => none
def eFld (c f : Str) (fa : FE W) : FE W := fun ρ S => (fa ρ S).bind fun w S1 => orBad (fldOf c f S1 w) S1
def sFldS (c f : Str) (fo fv : FE W) : FS := fun ρ S => (fv ρ S).toR ρ fun w S1 => (fo ρ S1).toR ρ fun o S2 => match o with
  | .loc n => match S2[n]? with
    | some (.ins c' ns ws) => if c' = c ∧ ns.length < 1000 then .nx ρ (S2.set n (.ins c' (putN f ns) (putA f w ns ws))) else .bad
    | _ => .bad
  | _ => .bad
/-- a class of the program: what is known of it -/
structure ClsF (K : PySem.W.Frag) (CT : Str → Addr) (c : Str) : Prop where
  cl : Cls K (CT c)
section
variable {X : Cx} {CT : Str → Addr} {U : WX} {e o value : Expr} {fe fo fv : FE W} {pos pos' : Pos} {c f : Str}
theorem fldOf_ok {K : PySem.W.Frag} {s : Fs} {S : Store} {H : Hp} (g : Gd K CT s S H) {w u : W} {v : V} (r : RepW K CT s w v) (e : fldOf c f S w = some u) : ∃ a dx fs x, v = .ref a ∧ H a = some (.ins (CT c) dx fs) ∧ fs.lookup f = some x ∧ RepW K CT s u x := by
  cases w with
  | val p =>
    cases p with
    | obj c' ns ps =>
      simp only [fldOf] at e
      split at e
      · rename_i hc
        subst hc
        simp only [Option.map_eq_some_iff] at e
        obtain ⟨q, e, rfl⟩ := e
        obtain ⟨a, dx, vs, rfl, h1, hl, h2⟩ := r
        obtain ⟨x, e1, r1⟩ := lookPs h2 e
        exact ⟨a, dx, _, x, rfl, g.exF _ _ h1, e1, r1⟩
      · cases e
    | _ => cases e
  | loc n =>
    obtain ⟨a, h1, rfl⟩ := r
    unfold fldOf at e
    cases hc : S[n]? with
    | none => simp [hc] at e
    | some cell =>
      have q := g.cells n _ a hc h1
      cases cell with
      | lst ws => simp [hc] at e
      | ins c' ns ws =>
        simp only [hc] at e
        split at e
        · rename_i h; subst h
          obtain ⟨_, _, dx, vs, q3, ql, q4⟩ := q
          obtain ⟨x, e1, r1⟩ := lookW q4 e
          exact ⟨a, dx, _, x, rfl, q3, e1, r1⟩
        · cases e
      | frz p =>
        cases p with
        | obj c' ns ps =>
          simp only [hc] at e
          split at e
          · rename_i h; subst h
            simp only [Option.map_eq_some_iff] at e
            obtain ⟨z, e, rfl⟩ := e
            obtain ⟨b, dx, vs, hb, h1, hl, h2⟩ := q
            cases hb
            obtain ⟨x, e1, r1⟩ := lookPs h2 e
            exact ⟨_, dx, _, x, rfl, g.exF _ _ h1, e1, r1⟩
          · cases e
        | _ => simp [hc] at e
theorem pz_fld (cl : Cls X.K (CT c)) (na : NoAttr X.K (CT c) f) (he : PZ X CT U e fe) (hb : attributeBase e f X.env (eval e X.env) = eval e X.env := by rfl) : PZ X CT U (.Attribute e f pos) (eFld c f fe) := weakE (pe_fld he hb) fun σ H Q ⟨s, S, ρ, gd, en, h⟩ =>
  ⟨s, S, ρ, gd, en, RG.step h fun w S1 s1 H1 v x1 g1 r1 h1 => by
    obtain ⟨u, e, h1⟩ := RG.orBad h1
    obtain ⟨a, dx, fs, x, rfl, q1, q2, q3⟩ := fldOf_ok g1 r1 e
    exact ⟨a, CT c, dx, fs, x, rfl, q1, cl, na, q2, RG.here h1 g1 q3⟩⟩
theorem zs_fld (cl : Cls X.K (CT c)) (na : NoAttr X.K (CT c) f) (ho : PZ X CT U o fo) (hv : PZ X CT U value fv) (hs : swapsWith value (some (.Attribute o f pos')) pos.line X.env = pure false := by rfl) : PZS X CT U (.Assign [.Attribute o f pos'] value pos) (sFldS c f fo fv) :=
  weakS (ps_fld ho hv hs) fun D σ H ⟨s, S, ρ, gd, en, h⟩ => ⟨s, S, ρ, gd, en, RS.step h en fun w S1 s1 H1 v x1 g1 r1 h1 => ⟨s1, S1, ρ, g1, en.mono x1, RS.step h1 (en.mono x1) fun ow S2 s2 H2 ov x2 g2 r2 h2 => by
    cases ow with
    | val p => exact h2.elim
    | loc n =>
      obtain ⟨a, m1, rfl⟩ := r2
      cases hc : S2[n]? with
      | none => simp only [hc] at h2; exact h2.elim
      | some cell =>
        cases cell with
        | lst ws => simp only [hc] at h2; exact h2.elim
        | frz ws => simp only [hc] at h2; exact h2.elim
        | ins c' ns ws =>
          simp only [hc] at h2
          split at h2
          · rename_i hcc
            obtain ⟨rfl, hlen⟩ := hcc
            obtain ⟨q1, q2, dx, vs, q3, ql, q4⟩ := g2.cells n _ a hc m1
            have lz : ns.length = vs.length := by rw [q4.length]; exact ql
            refine ⟨a, CT c', dx, _, rfl, q3, cl, na, by rw [List.length_zip]; omega, ?_⟩
            rw [putF_zip f v lz]
            refine RS.here h2 (g2.setC hc trivial m1 q1 q2 (by rw [q3]; simp) ⟨q1, q2, dx, _, upd_same, putN_len f w ql, RepWs.put (r1.mono x2) ql q4⟩) ((en.mono x1).mono x2)
          · exact h2.elim⟩⟩

/-! ### methods of lists -/
def MethZ (K : PySem.W.Frag) (CT : Str → Addr) (r : V → List V → Hp → VK → Prop) (op : W → List W → Store → RE W) : Prop := ∀ (s : Fs) (S : Store) (H : Hp) (w : W) (v : V) (ws : List W) (vs : List V) (Q : VK) (EX : Value → Option Addr → Hp → Prop),
  Gd K CT s S H → RepW K CT s w v → RepWs K CT s ws vs → RG K CT (RepW K CT) s (op w ws S) Q EX → r v vs H Q
def isTy (T : String) (S : Store) (w : W) : Bool := match w with
  | .val (.str _) => T == "str"
  | .val (.int _) => T == "int"
  | w => T == "list" && (seqW S w).isSome
theorem isTy_ok {K : PySem.W.Frag} {s : Fs} {S : Store} {H : Hp} {T : String} (g : Gd K CT s S H) {w : W} {v : V} (r : RepW K CT s w v) (e : isTy T S w = true) : tyV K T v H := by
  unfold isTy at e
  split at e
  · rw [show v = _ from r]; exact beq_iff_eq.mp e
  · rw [show v = _ from r]; exact beq_iff_eq.mp e
  · simp only [Bool.and_eq_true, beq_iff_eq, Option.isSome_iff_exists] at e
    obtain ⟨rfl, ws, e⟩ := e
    obtain ⟨a, vs, rfl, h1, h2⟩ := seqW_ok g r e
    exact .inl ⟨rfl, vs, h1⟩
def eBM (T : String) (op : W → List W → Store → RE W) (fo : FE W) (fa : FE (List W)) : FE W := fun ρ S => (fo ρ S).bind fun w S1 => if isTy T S1 w = true then (fa ρ S1).bind fun ws S2 => op w ws S2 else .bad
def eBM0 (T : String) (op : W → List W → Store → RE W) (fo : FE W) : FE W := fun ρ S => (fo ρ S).bind fun w S1 => if isTy T S1 w = true then op w [] S1 else .bad
variable {es : List Expr} {ga : FE (List W)} {apos : Pos} {r : V → List V → Hp → VK → Prop} {op : W → List W → Store → RE W} {T bid : String} {name : Str}
theorem bm_can (hz : MethZ X.K CT r op) {σ : L2.St} {H : Hp} {Q : VK} (h : canE X.K CT U (eBM T op fo ga) σ H Q) : tBM X.K T r (canE X.K CT U fo) (canA X.K CT U ga) σ H Q := by
  obtain ⟨s, S, ρ, gd, en, h⟩ := h
  refine ⟨s, S, ρ, gd, en, RG.step h fun w S1 s1 H1 v x1 g1 r1 h1 => ?_⟩
  split at h1
  · rename_i ty
    exact ⟨isTy_ok g1 r1 ty, s1, S1, ρ, g1, en.mono x1, RG.step h1 fun ws S2 s2 H2 vs x2 g2 r2 h2 => hz s2 S2 H2 w v ws vs Q _ g2 (r1.mono x2) r2 h2⟩
  · exact h1.elim
theorem bm0_can (hz : MethZ X.K CT r op) {σ : L2.St} {H : Hp} {Q : VK} (h : canE X.K CT U (eBM0 T op fo) σ H Q) : tBM0 X.K T r (canE X.K CT U fo) σ H Q := by
  obtain ⟨s, S, ρ, gd, en, h⟩ := h
  refine ⟨s, S, ρ, gd, en, RG.step h fun w S1 s1 H1 v x1 g1 r1 h1 => ?_⟩
  split at h1
  · rename_i ty
    exact ⟨isTy_ok g1 r1 ty, hz s1 S1 H1 w v [] [] Q _ g1 r1 rfl h1⟩
  · exact h1.elim
/-- a live list -/
def liveL (S : Store) : W → Option (Nat × List W)
  | .loc n => match S[n]? with
    | some (.lst ws) => some (n, ws)
    | _ => none
  | _ => none
def appendW : W → List W → Store → RE W := fun o ws S => match liveL S o, ws with
  | some (n, xs), [w] => if xs.length < 100000 then .ok (.val .non) (S.set n (.lst (xs ++ [w]))) else .bad
  | _, _ => .bad
theorem liveL_ok {K : PySem.W.Frag} {s : Fs} {S : Store} {H : Hp} (g : Gd K CT s S H) {w : W} {v : V} {n : Nat} {xs : List W} (r : RepW K CT s w v) (e : liveL S w = some (n, xs)) :
    ∃ a vs, v = .ref a ∧ S[n]? = some (.lst xs) ∧ s.m[n]? = some a ∧ s.F a = none ∧ s.G a = none ∧ H a = some (.lst vs) ∧ RepWs K CT s xs vs := by
  cases w with
  | val p => cases e
  | loc k =>
    unfold liveL at e
    cases hc : S[k]? with
    | none => simp [hc] at e
    | some cell =>
      cases cell with
      | lst ws =>
        simp only [hc] at e
        cases e
        obtain ⟨a, m1, rfl⟩ := r
        obtain ⟨q1, q2, vs, q3, q4⟩ := g.cells _ _ a hc m1
        exact ⟨a, vs, rfl, hc, m1, q1, q2, q3, q4⟩
      | _ => simp [hc] at e
theorem mz_append {K : PySem.W.Frag} : MethZ K CT rAppend appendW := fun s S H w v ws vs Q EX gd r1 r2 h => by
  unfold appendW at h
  split at h
  · rename_i n xs u e
    obtain ⟨a, us, rfl, h1, h2, h3, h4, h5, h6⟩ := liveL_ok gd r1 e
    obtain ⟨y, rfl, ry⟩ := rep1 r2
    split at h
    · rename_i hl
      exact ⟨a, us, y, rfl, rfl, h5, by rw [h6.length]; exact sz5' hl, RG.here h (gd.setC h1 trivial h2 h3 h4 (by rw [h5]; simp) ⟨h3, h4, _, upd_same, h6.append ⟨y, [], rfl, ry, rfl⟩⟩) rfl⟩
    · exact h.elim
  · exact h.elim
theorem pz_append (ho : PZ X CT U o fo) (ha : PZA X CT U [e] ga) (hst : starEach [e] X.env = (false, eval e X.env) :: starEach [] X.env := by rfl)
    (ht : PE X (.Call (.Attribute o "append" apos) [e] [] pos) (tBM X.K "list" rAppend (canE X.K CT U fo) (canA X.K CT U ga))) : PZ X CT U (.Call (.Attribute o "append" apos) [e] [] pos) (eBM "list" appendW fo ga) := weakE ht fun σ H Q h => bm_can mz_append h
/-- a method of a built-in: ht is pe_bm .. of the parts -/
theorem pz_bm {call : Expr} (hz : MethZ X.K CT r op) (ht : PE X call (tBM X.K T r (canE X.K CT U fo) (canA X.K CT U ga))) : PZ X CT U call (eBM T op fo ga) := weakE ht fun σ H Q h => bm_can hz h
theorem pz_bm0 {call : Expr} (hz : MethZ X.K CT r op) (ht : PE X call (tBM0 X.K T r (canE X.K CT U fo))) : PZ X CT U call (eBM0 T op fo) := weakE ht fun σ H Q h => bm0_can hz h
def insertW : W → List W → Store → RE W := fun o ws S => match liveL S o, ws with
  | some (n, xs), [.val (.int i), w] => if xs.length < 100000 ∧ 0 ≤ i ∧ i < 2 ^ 62 then .ok (.val .non) (S.set n (.lst (xs.take i.toNat ++ [w] ++ xs.drop i.toNat))) else .bad
  | _, _ => .bad
theorem RepWs.one {K : PySem.W.Frag} {s : Fs} {w : W} {v : V} (h : RepW K CT s w v) : RepWs K CT s [w] [v] := ⟨v, [], rfl, h, rfl⟩
theorem RepWs.take {K : PySem.W.Frag} {s : Fs} : ∀ {ws : List W} {vs : List V} (n : Nat), RepWs K CT s ws vs → RepWs K CT s (ws.take n) (vs.take n)
  | [], vs, n, h => by rw [show vs = [] from h]; simp; exact rfl
  | w :: ws, _, 0, ⟨v, vs', rfl, h2, h3⟩ => rfl
  | w :: ws, _, n + 1, ⟨v, vs', rfl, h2, h3⟩ => ⟨v, vs'.take n, rfl, h2, RepWs.take n h3⟩
theorem RepWs.drop {K : PySem.W.Frag} {s : Fs} : ∀ {ws : List W} {vs : List V} (n : Nat), RepWs K CT s ws vs → RepWs K CT s (ws.drop n) (vs.drop n)
  | [], vs, n, h => by rw [show vs = [] from h]; simp; exact rfl
  | w :: ws, _, 0, h => h
  | w :: ws, _, n + 1, ⟨v, vs', rfl, h2, h3⟩ => RepWs.drop n h3
theorem mz_insert {K : PySem.W.Frag} : MethZ K CT (fun x vs H Q => ∃ (l : Addr) (xs : List V) (i : Int) (y : V), x = .ref l ∧ vs = [.int i, y] ∧ H l = some (.lst xs) ∧ xs.length < sizeLine ∧ 0 ≤ i ∧ i < 2 ^ 63 ∧
    Q .non (upd H l (.lst (xs.take i.toNat ++ [y] ++ xs.drop i.toNat)))) insertW := fun s S H w v ws vs Q EX gd r1 r2 h => by
  unfold insertW at h
  split at h
  · rename_i n xs i u e
    obtain ⟨a, us, rfl, h1, h2, h3, h4, h5, h6⟩ := liveL_ok gd r1 e
    obtain ⟨y, y2, rfl, ry, ry2⟩ := rep2 r2
    split at h
    · rename_i hl
      exact ⟨a, us, i, y2, rfl, by rw [show y = _ from ry], h5, by rw [h6.length]; exact sz5' hl.1, hl.2.1, by omega, RG.here h (gd.setC h1 trivial h2 h3 h4 (by rw [h5]; simp) ⟨h3, h4, _, upd_same, (RepWs.append (RepWs.append (h6.take _) (RepWs.one ry2)) (h6.drop _))⟩) rfl⟩
    · exact h.elim
  · exact h.elim
def popW : W → List W → Store → RE W := fun o ws S => match liveL S o, ws with
  | some (n, xs), [] => match xs[xs.length - 1]? with
    | some w => .ok w (S.set n (.lst xs.dropLast))
    | none => .bad
  | _, _ => .bad
theorem RepWs.dropLast {K : PySem.W.Frag} {s : Fs} {ws : List W} {vs : List V} (h : RepWs K CT s ws vs) : RepWs K CT s ws.dropLast vs.dropLast := by
  rw [List.dropLast_eq_take, List.dropLast_eq_take, h.length]
  exact h.take _
theorem mz_pop {K : PySem.W.Frag} : MethZ K CT rPop popW := fun s S H w v ws vs Q EX gd r1 r2 h => by
  unfold popW at h
  split at h
  · rename_i n xs e
    obtain ⟨a, us, rfl, h1, h2, h3, h4, h5, h6⟩ := liveL_ok gd r1 e
    rw [show vs = [] from r2]
    split at h
    · rename_i u eu
      obtain ⟨y, ey, ry⟩ := h6.get' eu
      exact ⟨a, us, y, rfl, rfl, h5, by rw [h6.length]; exact ey, RG.here h (gd.setC h1 trivial h2 h3 h4 (by rw [h5]; simp) ⟨h3, h4, _, upd_same, h6.dropLast⟩) ry⟩
    · exact h.elim
  · exact h.elim
/-- what may be added to a list: a list's items -/
def lstWs (S : Store) : W → Option (List W)
  | .val (.lst ps) => some (ps.map .val)
  | .loc n => match S[n]? with
    | some (.lst ws) => some ws
    | some (.frz (.lst ps)) => some (ps.map .val)
    | _ => none
  | _ => none
theorem lstWs_ok {K : PySem.W.Frag} {s : Fs} {S : Store} {H : Hp} (g : Gd K CT s S H) {w : W} {v : V} {ws : List W} (r : RepW K CT s w v) (e : lstWs S w = some ws) : ∃ a vs, v = .ref a ∧ H a = some (.lst vs) ∧ RepWs K CT s ws vs := by
  cases w with
  | val p =>
    cases p with
    | lst ps => cases e; obtain ⟨a, vs, h1, h2, h3⟩ := r; exact ⟨a, vs, h1, g.exF _ _ h2, h3.ws⟩
    | _ => cases e
  | loc n =>
    obtain ⟨a, h1, rfl⟩ := r
    unfold lstWs at e
    cases hc : S[n]? with
    | none => simp [hc] at e
    | some c =>
      have q := g.cells n _ a hc h1
      cases c with
      | ins c ns ws => simp [hc] at e
      | lst ws' => simp only [hc] at e; cases e; obtain ⟨_, _, vs, q3, q4⟩ := q; exact ⟨a, vs, rfl, q3, q4⟩
      | frz p =>
        cases p with
        | lst ps => simp only [hc] at e; cases e; obtain ⟨b, vs, hb, q3, q4⟩ := q; cases hb; exact ⟨_, vs, rfl, g.exF _ _ q3, q4.ws⟩
        | _ => simp [hc] at e
def extendW : W → List W → Store → RE W := fun o ws S => match liveL S o, ws with
  | some (n, xs), [w] => match lstWs S w with
    | some ys => if xs.length + ys.length ≤ 100000 then .ok (.val .non) (S.set n (.lst (xs ++ ys))) else .bad
    | none => .bad
  | _, _ => .bad
theorem mz_extend {K : PySem.W.Frag} : MethZ K CT rExtend extendW := fun s S H w v ws vs Q EX gd r1 r2 h => by
  unfold extendW at h
  split at h
  · rename_i n xs u e
    obtain ⟨a, us, rfl, h1, h2, h3, h4, h5, h6⟩ := liveL_ok gd r1 e
    obtain ⟨y, rfl, ry⟩ := rep1 r2
    split at h
    · rename_i ys ey
      obtain ⟨b, zs, rfl, hb, rz⟩ := lstWs_ok gd ry ey
      split at h
      · rename_i hl
        exact ⟨a, b, us, zs, rfl, rfl, h5, hb, by rw [h6.length, rz.length]; exact sz5 hl, RG.here h (gd.setC h1 trivial h2 h3 h4 (by rw [h5]; simp) ⟨h3, h4, _, upd_same, h6.append rz⟩) rfl⟩
      · exact h.elim
    · exact h.elim
  · exact h.elim
end
end Z
end
-- part Z8
section
set_option Elab.async false
set_option linter.all false
set_option maxRecDepth 100000
set_option autoImplicit false
namespace Z
open PySem PySem.Spec PyProof.Rows L2

/-! ### defs of data -/
/-- how a call left the frozen part: nothing that stood is touched -/
structure Left (F H F' H' : Hp) : Prop where
  f : Ex F F'
  h : Ex H H'
  fh : Ex F' H'
  new : ∀ a, F a = none → H a ≠ none → F' a = none
def RP (K : PySem.W.Frag) (CT : Str → Addr) (F H : Hp) (r : Rp) (Q : VK) (E : XK) : Prop := match r with
  | .ok p => ∀ F' H' v, Left F H F' H' → RepP K CT F' p v → Q v H'
  | .ex x => ∀ F' H' c dd, Left F H F' H' → RepX K CT F' x c dd → E c dd H'
  | .bad => False
def spP (K : PySem.W.Frag) (CT : Str → Addr) (n : Nat) (g : List P → Rp) : Sp := fun vs H Q E => ∃ F ds, Ex F H ∧ ds.length = n ∧ RepL K CT F ds vs ∧ RP K CT F H (g ds) Q E
def envOf (ds : List P) (m : Nat) : Env := (ds.map fun p => some (W.val p)) ++ List.replicate (m - ds.length) none
def runP (m : Nat) (body : FS) (ds : List P) : Rp := match body (envOf ds m) [] with
  | .rt w S => match frz S w with
    | some (p, _) => .ok p
    | none => .bad
  | .nx _ _ => .ok .non
  | .ex x _ _ => .ex x
  | _ => .bad
def liftP (r : Rp) (S : Store) : RE W := match r with
  | .ok p => .ok (.val p) S
  | .ex x => .ex x S
  | .bad => .bad
section
variable {K : PySem.W.Frag} {CT : Str → Addr}
theorem envOf_ok {F G : Hp} {ds : List P} {vs : List V} {N : List Str} {m : List Addr} (r : RepL K CT F ds vs) : EnvOk K CT ⟨G, F, m⟩ (envOf ds N.length) (start N vs) := by
  refine ⟨by simp [envOf, L2.start, r.length], fun i w e => ?_⟩
  unfold envOf at e
  unfold L2.start
  by_cases hi : i < ds.length
  · rw [List.getElem?_append_left (by simpa using hi), List.getElem?_map] at e
    cases ed : ds[i]? with
    | none => rw [ed] at e; cases e
    | some p =>
      rw [ed] at e
      cases e
      obtain ⟨v, ev, rv⟩ := r.get' ed
      exact ⟨v, by rw [List.getElem?_append_left (by simpa [r.length] using hi), List.getElem?_map, ev]; rfl, rv⟩
  · rw [List.getElem?_append_right (by simpa using Nat.le_of_not_lt hi), List.getElem?_replicate] at e
    split at e <;> cases e
theorem Gd.start {F H : Hp} (e : Ex F H) : Gd K CT ⟨H, F, []⟩ [] H := ⟨e, Ex.refl _, rfl, fun n c a h => by simp at h, fun n n' c c' a h => by simp at h⟩
theorem left_of {F H : Hp} {s' : Fs} {S' : Store} {H' : Hp} (x : Ext ⟨H, F, []⟩ s') (g : Gd K CT s' S' H') : Left F H s'.F H' := ⟨x.f, by have := g.exG; rw [← x.g] at this; exact this, g.exF, x.new⟩
/-- a def's body, wherever it runs -/
def DefOk (P' : Program) (w : World) (K : PySem.W.Frag) (mg : Str → Option Value) (base : Heap) (CT : Str → Addr) (N : List Str) (qual : Str) (st : Stmt) (f : Addr) (k : Nat) (body : FS) : Prop :=
  ∀ (cdv : Value) (A : Around) (s : Shared) (H : Hp) (E : XK) (o : List PySem.Env), Room k (cxOf (L2.CX P' w) P' w K mg base N qual (defScope st) f cdv A o s H E).A →
    Takes (cxOf (L2.CX P' w) P' w K mg base N qual (defScope st) f cdv A o s H E) (fun c d _ H => E c d H) →
    PassesOwn (model P' w) (cxOf (L2.CX P' w) P' w K mg base N qual (defScope st) f cdv A o s H E).A (cxOf (L2.CX P' w) P' w K mg base N qual (defScope st) f cdv A o s H E).env (cxOf (L2.CX P' w) P' w K mg base N qual (defScope st) f cdv A o s H E).xe →
      PZSs (cxOf (L2.CX P' w) P' w K mg base N qual (defScope st) f cdv A o s H E) CT (fun c d _ H => E c d H) (defBody st) body
/-- THE RULE for a def of data -/
theorem fn_pure {P' : Program} {w : World} {mg : Str → Option Value} {base : Heap} {x qual : Str} {st : Stmt} {f : Addr} {fd : FuncData} {N ps : List Str} {k : Nat} {body : FS} {dvs : List V} {kws : List (Str × V)} (F : FunD K x qual (defArgs st) (defBody st) (defScope st) dvs kws f fd) (S : FnScope N ps (defScope st))
    (hb : DefOk P' w K mg base CT N qual st f k body) : FnOk P' w K mg base (L2.CX P' w) (k + 1) f fd ps (spP K CT ps.length (runP N.length body)) := by
  refine F.ok S (fun vs H Q E ⟨F, ds, _, hl, r, _⟩ => by rw [r.length, hl]) fun cdv A outer s H vs Q E hr hsp => ⟨_, hb cdv A s H E outer hr (takes_of rfl rfl rfl rfl) (passes_of rfl), ?_⟩
  obtain ⟨F0, ds, eF, hl, r, h⟩ := hsp
  refine ⟨⟨H, F0, []⟩, [], envOf ds N.length, Gd.start eF, envOf_ok r, ?_⟩
  unfold runP at h
  cases er : body (envOf ds N.length) [] with
  | nx ρ' S' => rw [er] at h; exact fun s' H' σ' x g en => h s'.F H' _ (left_of x g) rfl
  | rt w S' =>
    rw [er] at h
    intro s' H' v x g rw
    simp only at h
    cases ef : frz S' w with
    | none => rw [ef] at h; exact h.elim
    | some q =>
      obtain ⟨p, S2⟩ := q
      rw [ef] at h
      obtain ⟨s2, x2, g2, r2⟩ := frz_ok g rw ef
      exact h s2.F H' v (left_of (x.trans x2) g2) r2
  | ex x ρ' S' => rw [er] at h; exact fun s' H' σ' c dd x g en q => h s'.F H' c dd (left_of x g) q
  | bk ρ' S' => rw [er] at h; exact h.elim
  | ct ρ' S' => rw [er] at h; exact h.elim
  | bad => rw [er] at h; exact h.elim
/-- a call, from the caller's state -/
theorem RG.call {s : Fs} {S : Store} {H : Hp} {r : Rp} {Q : VK} {EX : XK} (g : Gd K CT s S H) (h : RG K CT (RepW K CT) s (liftP r S) Q EX) : RP K CT s.F H r Q EX := by
  cases r with
  | ok p =>
    intro F' H' v l rv
    obtain ⟨g', x⟩ := g.grow l.f l.h l.fh l.new
    exact h _ _ _ x g' rv
  | ex x =>
    intro F' H' c dd l rv
    obtain ⟨g', x'⟩ := g.grow l.f l.h l.fh l.new
    exact h _ _ _ _ x' g' rv
  | bad => exact h
end
def eCall (n : Nat) (g : List P → Rp) (fa : FE (List W)) : FE W := fun ρ S => (fa ρ S).bind fun ws S1 => (doFrzs ws S1).bind fun ps S2 => if ps.length = n then liftP (g ps) S2 else .bad
section
variable {X : Cx} {CT : Str → Addr} {U : WX} {e o : Expr} {es : List Expr} {fo : FE W} {ga : FE (List W)} {pos p apos : Pos} {x m c : Str} {k n : Nat} {f : Addr} {fd : FuncData} {ps : List Str} {g : List P → Rp}
theorem pz_call (F : FnOk X.prog X.w X.K X.mg X.base (L2.CX X.prog X.w) k f fd ps (spP X.K CT n g)) (hr : Room k X.A) (hg : Gl X x) (hm : X.mg x = some (.ref f)) (hk : PySem.W.keepIn X.K (.ref f) = true) (hb : Binds X.K fd ps []) (tk : Takes X U)
    (ha : PZA X CT U (e :: es) ga) (hdb : (x == ("__debug__" : Str)) = false := by decide) (he : starEach (e :: es) X.env = (false, eval e X.env) :: starEach es X.env := by rfl) (hpl : (backTo pos (starEach es X.env)).any (·.1) = false := by rfl) :
    PZ X CT U (.Call (.Name x p) (e :: es) [] pos) (eCall n g ga) := weakE (pe_callS F hr hg hm hk hb (fun σ => passAt tk σ) ha hdb he hpl) fun σ H Q ⟨s, S, ρ, gd, en, h⟩ =>
  ⟨s, S, ρ, gd, en, RG.step h fun ws S1 s1 H1 vs x1 g1 r1 h1 => by
    obtain ⟨ps, S2, s2, x2, g2, r2, h2⟩ := RG.frzs g1 r1 h1
    split at h2
    · rename_i hl
      exact ⟨s2.F, ps, g2.exF, hl, r2, RG.call g2 h2⟩
    · exact h2.elim⟩
/-! methods, at the slots -/
def tMethS (C : Addr) (m : Str) (sp : Sp) (E : L2.St → XK) (ta : TE) (t : TA) : TE := fun σ H Q => ta σ H fun x H1 => ∃ a dx fs, x = .ref a ∧ H1 a = some (.ins C dx fs) ∧ fs.lookup m = none ∧
  t σ H1 fun vs H2 => sp (x :: vs) H2 Q (E σ)
theorem pe_methS {C : Addr} {CX : CXT} {sp : Sp} {E : L2.St → XK} {ta : TE} {t : TA} {pl : Sem Bool} (he : PE X o ta) (c : Cls X.K C) (hm : Meth X.K C m f) (F : FnOk X.prog X.w X.K X.mg X.base CX k f fd ps sp) (hr : Room k X.A) (hb : Binds X.K fd ps []) (hx : ∀ σ, PassesAt CX X σ (E σ)) (ha : PA X (e :: es) t)
    (hst : starEach (e :: es) X.env = (false, eval e X.env) :: starEach es X.env := by rfl) (hpl : (backTo pos (starEach es X.env)).any (·.1) = false := by rfl)
    (ht : eval (.Call (.Attribute o m apos) (e :: es) [] pos) X.env = (do
      let ov ← eval o X.env
      standAt apos.atName
      let (f, first) ← holding [ov] (getMethod ov m pl)
      callWith pos f first (backTo pos (starEach (e :: es) X.env)) (backToKw pos (keywordEach [] X.env))) := by rfl) :
    PE X (.Call (.Attribute o m apos) (e :: es) [] pos) (tMethS C m sp E ta t) := by
  refine ⟨fun pins s σ H Q I h => ?_⟩
  refine PySem.W.methodCall_KW (pl := pl) (thn (he.run pins s σ H _ I h) fun u s1 ⟨x, H1, I1, rx, a, dx, fs, ex, ea, l, q⟩ => ?_) ht
  subst ex
  obtain rfl : u = Value.ref a := rx
  refine getmeth_ok I1 ea c hm l ?_
  refine PySem.W.callWith_K (first := [.ref a]) (h₀ := X.base) I.ok.mod.kin hm.kp (thn (ha.run pos pins s1 σ H1 _ I1 q) fun us s2 ⟨vs, H2, I2, r, q2⟩ => ⟨I2.kIn, ?_⟩) hst hpl
  exact run_fnS (us := .ref a :: us) (vs := .ref a :: vs) F hr hb (hx σ) I2 (.cons rfl r) q2
theorem pe_methS0 {C : Addr} {CX : CXT} {sp : Sp} {E : L2.St → XK} {ta : TE} {pl : Sem Bool} (he : PE X o ta) (c : Cls X.K C) (hm : Meth X.K C m f) (F : FnOk X.prog X.w X.K X.mg X.base CX k f fd ps sp) (hr : Room k X.A) (hb : Binds X.K fd ps []) (hx : ∀ σ, PassesAt CX X σ (E σ))
    (ht : eval (.Call (.Attribute o m apos) [] [] pos) X.env = (do
      let ov ← eval o X.env
      standAt apos.atName
      let (f, first) ← holding [ov] (getMethod ov m pl)
      callWith pos f first (backTo pos (starEach [] X.env)) (backToKw pos (keywordEach [] X.env))) := by rfl) :
    PE X (.Call (.Attribute o m apos) [] [] pos) (tMethS C m sp E ta tNil) := by
  refine ⟨fun pins s σ H Q I h => ?_⟩
  refine PySem.W.methodCall_KW (pl := pl) (thn (he.run pins s σ H _ I h) fun u s1 ⟨x, H1, I1, rx, a, dx, fs, ex, ea, l, q⟩ => ?_) ht
  subst ex
  obtain rfl : u = Value.ref a := rx
  refine getmeth_ok I1 ea c hm l ?_
  exact PySem.W.callWith_K0 (first := [.ref a]) I1.kIn hm.kp (run_fnS (us := [.ref a]) (vs := [.ref a]) F hr hb (hx σ) I1 (.cons rfl .nil) q)
/-- a method of data: the instance is frozen first -/
def eMeth (c m : Str) (n : Nat) (g : List P → Rp) (fo : FE W) (fa : FE (List W)) : FE W := fun ρ S => (fo ρ S).bind fun w S1 => (doFrz w S1).bind fun p S2 => match p with
  | .obj c' ns qs => if c' = c ∧ ns.contains m = false then (fa ρ S2).bind fun ws S3 => (doFrzs ws S3).bind fun ps S4 => if ps.length + 1 = n then liftP (g (.obj c' ns qs :: ps)) S4 else .bad else .bad
  | _ => .bad
theorem meth_can {sp : Sp} (hsp : sp = spP X.K CT n g) {σ : L2.St} {H : Hp} {Q : VK} (h : canE X.K CT U (eMeth c m n g fo ga) σ H Q) : tMethS (CT c) m sp (WE U) (canE X.K CT U fo) (canA X.K CT U ga) σ H Q := by
  subst hsp
  obtain ⟨s, S, ρ, gd, en, h⟩ := h
  refine ⟨s, S, ρ, gd, en, RG.step h fun w S1 s1 H1 v x1 g1 r1 h1 => ?_⟩
  obtain ⟨p, S2, s2, x2, g2, r2, h2⟩ := RG.frz g1 r1 h1
  split at h2
  · rename_i c' ns qs
    split at h2
    · rename_i hc
      obtain ⟨rfl, hns⟩ := hc
      have r2' := r2
      obtain ⟨a, dx, vs, rfl, q1, ql, q2⟩ := r2
      refine ⟨a, dx, _, rfl, g2.exF _ _ q1, look_none hns, s2, S2, ρ, g2, (en.mono x1).mono x2, RG.step h2 fun ws S3 s3 H3 us x3 g3 r3 h3 => ?_⟩
      obtain ⟨ps, S4, s4, x4, g4, r4, h4⟩ := RG.frzs g3 r3 h3
      split at h4
      · rename_i hl
        exact ⟨s4.F, .obj c' ns qs :: ps, g4.exF, by simpa using hl, ⟨_, _, rfl, (r2'.mono x3.f).mono x4.f, r4⟩, RG.call g4 h4⟩
      · exact h4.elim
    · exact h2.elim
  · exact h2.elim
theorem pz_meth {pl : Sem Bool} (cl : Cls X.K (CT c)) (hm : Meth X.K (CT c) m f) (F : FnOk X.prog X.w X.K X.mg X.base (L2.CX X.prog X.w) k f fd ps (spP X.K CT n g)) (hr : Room k X.A) (hb : Binds X.K fd ps []) (tk : Takes X U) (ho : PZ X CT U o fo) (ha : PZA X CT U (e :: es) ga)
    (hst : starEach (e :: es) X.env = (false, eval e X.env) :: starEach es X.env := by rfl) (hpl : (backTo pos (starEach es X.env)).any (·.1) = false := by rfl)
    (ht : eval (.Call (.Attribute o m apos) (e :: es) [] pos) X.env = (do
      let ov ← eval o X.env
      standAt apos.atName
      let (f, first) ← holding [ov] (getMethod ov m pl)
      callWith pos f first (backTo pos (starEach (e :: es) X.env)) (backToKw pos (keywordEach [] X.env))) := by rfl) : PZ X CT U (.Call (.Attribute o m apos) (e :: es) [] pos) (eMeth c m n g fo ga) :=
  weakE (pe_methS (pl := pl) ho cl hm F hr hb (fun σ => passAt tk σ) ha hst hpl ht) fun σ H Q h => meth_can rfl h
theorem pz_meth0 {pl : Sem Bool} (cl : Cls X.K (CT c)) (hm : Meth X.K (CT c) m f) (F : FnOk X.prog X.w X.K X.mg X.base (L2.CX X.prog X.w) k f fd ps (spP X.K CT n g)) (hr : Room k X.A) (hb : Binds X.K fd ps []) (tk : Takes X U) (ho : PZ X CT U o fo)
    (ht : eval (.Call (.Attribute o m apos) [] [] pos) X.env = (do
      let ov ← eval o X.env
      standAt apos.atName
      let (f, first) ← holding [ov] (getMethod ov m pl)
      callWith pos f first (backTo pos (starEach [] X.env)) (backToKw pos (keywordEach [] X.env))) := by rfl) : PZ X CT U (.Call (.Attribute o m apos) [] [] pos) (eMeth c m n g fo aNil) :=
  weakE (pe_methS0 (pl := pl) ho cl hm F hr hb (fun σ => passAt tk σ) ht) fun σ H Q h => by
    have := meth_can (ga := aNil) rfl h
    obtain ⟨s, S, ρ, gd, en, h⟩ := h
    refine ⟨s, S, ρ, gd, en, RG.step h fun w S1 s1 H1 v x1 g1 r1 h1 => ?_⟩
    obtain ⟨p, S2, s2, x2, g2, r2, h2⟩ := RG.frz g1 r1 h1
    split at h2
    · rename_i c' ns qs
      split at h2
      · rename_i hc
        obtain ⟨rfl, hns⟩ := hc
        have r2' := r2
        obtain ⟨a, dx, vs, rfl, q1, ql, q2⟩ := r2
        refine ⟨a, dx, _, rfl, g2.exF _ _ q1, look_none hns, ?_⟩
        simp only [aNil, RE.bind, doFrzs, Z.frzs] at h2
        split at h2
        · rename_i hl
          exact ⟨s2.F, [.obj c' ns qs], g2.exF, by simpa using hl, ⟨_, _, rfl, r2', rfl⟩, RG.call g2 h2⟩
        · exact h2.elim
      · exact h2.elim
    · exact h2.elim

/-! ### instances made: of data -/
/-- __init__'s promise -/
def spI (K : PySem.W.Frag) (CT : Str → Addr) (c : Str) (n : Nat) (g : List P → Rp) : Sp := fun vs H Q E => ∃ F ds a dx vs', vs = .ref a :: vs' ∧ Ex F H ∧ F a = none ∧ H a = some (.ins (CT c) dx []) ∧ ds.length = n ∧ RepL K CT F ds vs' ∧
  RP K CT F (fun b => if b = a then none else H b) (g ds) (fun v H' => v = .ref a → Q .non H') E
def runI (c : Str) (m : Nat) (body : FS) (ds : List P) : Rp := match body (some (.loc 0) :: envOf ds (m - 1)) [.ins c [] []] with
  | .nx _ S => match frz S (.loc 0) with
    | some (p, _) => .ok p
    | none => .bad
  | .rt (.val .non) S => match frz S (.loc 0) with
    | some (p, _) => .ok p
    | none => .bad
  | .ex x _ _ => .ex x
  | _ => .bad
theorem fn_init {K : PySem.W.Frag} {P' : Program} {w : World} {mg : Str → Option Value} {base : Heap} {qual : Str} {st : Stmt} {N ps : List Str} {body : FS} {dvs : List V} {kws : List (Str × V)} (F : FunD K x qual (defArgs st) (defBody st) (defScope st) dvs kws f fd) (S : FnScope N ps (defScope st)) (hN : N.length = N.length - 1 + 1) (hps : ps.length = n + 1)
    (hb : DefOk P' w K mg base CT N qual st f k body) : FnOk P' w K mg base (L2.CX P' w) (k + 1) f fd ps (spI K CT c n (runI c N.length body)) := by
  refine F.ok S (fun vs H Q E ⟨F, ds, a, dx, vs', e, _, _, _, hl, r, _⟩ => by rw [e, List.length_cons, r.length, hl, hps]) fun cdv A outer s H vs Q E hr hsp => ⟨_, hb cdv A s H E outer hr (takes_of rfl rfl rfl rfl) (passes_of rfl), ?_⟩
  obtain ⟨F0, ds, a, dx, vs', rfl, eF, Fa, Ha, hl, r, h⟩ := hsp
  have eGa : (fun b => if b = a then none else H b : Hp) a = none := by simp
  have eG : Ex (fun b => if b = a then none else H b) H := fun b o e => by
    by_cases q : b = a
    · simp [q] at e
    · simpa [q] using e
  have g0 : Gd K CT ⟨fun b => if b = a then none else H b, F0, [a]⟩ [.ins c [] []] H := by
    refine ⟨eF, eG, rfl, fun i cl b h1 h2 => ?_, fun i j c1 c2 b h1 h2 l1 l2 e1 e2 => ?_⟩
    · cases i with
      | zero => cases h1; cases h2; exact ⟨Fa, eGa, dx, [], Ha, rfl, rfl⟩
      | succ i => simp at h1
    · cases i with
      | zero =>
        cases j with
        | zero => rfl
        | succ j => simp at h2
      | succ i => simp at h1
  have en0 : EnvOk K CT ⟨fun b => if b = a then none else H b, F0, [a]⟩ (some (.loc 0) :: envOf ds (N.length - 1)) (start N (.ref a :: vs')) := by
    have lz := r.length
    refine ⟨by simp [envOf, L2.start]; omega, fun i w e => ?_⟩
    cases i with
    | zero =>
      cases e
      exact ⟨.ref a, rfl, a, rfl, rfl⟩
    | succ i =>
      have e' : (envOf ds (N.length - 1))[i]? = some (some w) := by simpa using e
      have q := (envOf_ok (N := N.drop 1) (G := fun b => if b = a then none else H b) (m := [a]) r).get i w (by simpa using e')
      obtain ⟨v, hv, rv⟩ := q
      refine ⟨v, ?_, rv⟩
      have : start N (.ref a :: vs') = some (.ref a) :: start (N.drop 1) vs' := by
        unfold L2.start
        rw [List.map_cons, List.cons_append, List.length_cons, List.length_drop]
        congr 3
        omega
      rw [this]
      simpa using hv
  have lf : ∀ {s' : Fs} {S' : Store} {H' : Hp}, Ext ⟨fun b => if b = a then none else H b, F0, [a]⟩ s' → Gd K CT s' S' H' → Left F0 (fun b => if b = a then none else H b) s'.F H' := fun x g => ⟨x.f, by have := g.exG; rw [← x.g] at this; exact this, g.exF, x.new⟩
  refine ⟨_, _, _, g0, en0, ?_⟩
  unfold runI at h
  have fin : ∀ {S' : Store} {s' : Fs} {H' : Hp}, Ext ⟨fun b => if b = a then none else H b, F0, [a]⟩ s' → Gd K CT s' S' H' → RP K CT F0 (fun b => if b = a then none else H b) (match frz S' (.loc 0) with | some (p, _) => .ok p | none => .bad) (fun v H' => v = .ref a → Q .non H') E → Q .non H' := fun {S' s' H'} x g h => by
    cases ef : frz S' (.loc 0) with
    | none => rw [ef] at h; exact h.elim
    | some q =>
      obtain ⟨p, S2⟩ := q
      rw [ef] at h
      obtain ⟨s2, x2, g2, r2⟩ := frz_ok (w := .loc 0) (v := .ref a) g ⟨a, x.m 0 a rfl, rfl⟩ ef
      exact h s2.F H' (.ref a) (lf (x.trans x2) g2) r2 rfl
  cases er : body (some (.loc 0) :: envOf ds (N.length - 1)) [.ins c [] []] with
  | nx ρ' S' => rw [er] at h; exact fun s' H' σ' x g en => fin x g h
  | rt w S' =>
    rw [er] at h
    intro s' H' v x g rv
    cases w with
    | loc n => exact h.elim
    | val p =>
      cases p with
      | non => rw [show v = _ from rv]; exact fin x g h
      | _ => exact h.elim
  | ex x ρ' S' => rw [er] at h; exact fun s' H' σ' c dd x g en q => h s'.F H' c dd (lf x g) q
  | bk ρ' S' => rw [er] at h; exact h.elim
  | ct ρ' S' => rw [er] at h; exact h.elim
  | bad => rw [er] at h; exact h.elim
/-! C(..) at the slots -/
def tMakeS (C : Addr) (sp : Sp) (E : L2.St → XK) (t : TA) : TE := fun σ H Q => t σ H fun vs H1 => ∀ x dx, H1 x = none → H1 dx = none → dx ≠ x →
  sp (.ref x :: vs) (upd (upd H1 dx (.own x)) x (.ins C dx [])) (fun v H2 => v = .non ∧ Q (.ref x) H2) (E σ)
theorem run_makeS {C : Addr} {CX : CXT} {sp : Sp} {E : L2.St → XK} {pins : List (Addr × Obj)} {σ : L2.St} {H : Hp} {s : Shared} {Q : VK} {us : List Value} {vs : List V} (M : Mk X.K C f) (F : FnOk X.prog X.w X.K X.mg X.base CX k f fd ps sp) (hr : Room (k + 1) X.A) (hb : Binds X.K fd ps [])
    (hx : ∀ σ, PassesAt CX X σ (E σ)) (I : Inv X pins σ H s) (r : Vals vs us)
    (h : ∀ x dx, H x = none → H dx = none → dx ≠ x → sp (.ref x :: vs) (upd (upd H dx (.own x)) x (.ins C dx [])) (fun v H2 => v = .non ∧ Q (.ref x) H2) (E σ)) :
    wpAny (model X.prog X.w) X.A (call (.ref C) us) (EP X pins σ Q) X.xe s := by
  have hq := h (s.heap.objs.size + 1) s.heap.objs.size (I.hok.fresh (Nat.le_succ _)) (I.hok.fresh (Nat.le_refl _)) (Nat.ne_of_lt (Nat.lt_succ_self _))
  have I2 := Inv.made (C := C) I
  have r2 : Vals (V.ref (s.heap.objs.size + 1) :: vs) (Value.ref (s.heap.objs.size + 1) :: us) := .cons rfl r
  have hl : (Value.ref (s.heap.objs.size + 1) :: us ++ []).length = ps.length := by
    have e := r2.length
    rw [F.len _ _ _ _ hq] at e
    rw [List.append_nil]
    exact e.symm
  have hbb := hb ⟨_, _, _, _, _⟩ (Value.ref (s.heap.objs.size + 1) :: us) I2.kIn hl
  rw [List.append_nil] at hbb
  refine wpAny_call (make_map (f := f) I.kIn M.makes M.init (beq_iff_eq.mp M.fn) (codeAny_mono (F.run _ X.stack _ _ ⟨Value.ref (s.heap.objs.size + 1) :: us, []⟩ (Value.ref (s.heap.objs.size + 1) :: us) _ _ (E σ) (hr.make C us [])
    (I2.env0.make C us []) hbb r2 hq) fun r s' hq' => ?_))
  cases r with
  | error e => exact hx σ pins _ _ e s' I2 hq'
  | ok fl =>
    cases fl with
    | ret u =>
      obtain ⟨v, H', I3, rv, ev, q3⟩ := I2.after hq'
      subst ev
      exact ⟨rv, ⟨V.ref (s.heap.objs.size + 1), H', I3, rfl, q3⟩⟩
    | next => exact False.elim hq'
    | brk => exact False.elim hq'
    | cont => exact False.elim hq'
theorem pe_makeS {C : Addr} {CX : CXT} {sp : Sp} {E : L2.St → XK} {t : TA} (M : Mk X.K C f) (F : FnOk X.prog X.w X.K X.mg X.base CX k f fd ps sp) (hr : Room (k + 1) X.A) (hg : Gl X x) (hm : X.mg x = some (.ref C)) (hb : Binds X.K fd ps []) (hx : ∀ σ, PassesAt CX X σ (E σ))
    (ha : PA X (e :: es) t) (hdb : (x == ("__debug__" : Str)) = false := by decide) (he : starEach (e :: es) X.env = (false, eval e X.env) :: starEach es X.env := by rfl) (hpl : (backTo pos (starEach es X.env)).any (·.1) = false := by rfl) :
    PE X (.Call (.Name x p) (e :: es) [] pos) (tMakeS C sp E t) := by
  refine ⟨fun pins s σ H Q I h => ?_⟩
  refine wpAny_Call_Name_kw (ld_glob I hg hm ?_ hdb)
  refine PySem.W.callWith_K (h₀ := X.base) I.ok.mod.kin M.kp (thn (ha.run pos pins s σ H _ I h) fun us s1 ⟨vs, H1, I1, r, q⟩ => ⟨I1.kIn, ?_⟩) he hpl
  exact run_makeS M F hr hb hx I1 r q
theorem pz_new (M : Mk X.K (CT c) f) (F : FnOk X.prog X.w X.K X.mg X.base (L2.CX X.prog X.w) k f fd ps (spI X.K CT c n g)) (hr : Room (k + 1) X.A) (hg : Gl X x) (hm : X.mg x = some (.ref (CT c))) (hb : Binds X.K fd ps []) (tk : Takes X U)
    (ha : PZA X CT U (e :: es) ga) (hdb : (x == ("__debug__" : Str)) = false := by decide) (he : starEach (e :: es) X.env = (false, eval e X.env) :: starEach es X.env := by rfl) (hpl : (backTo pos (starEach es X.env)).any (·.1) = false := by rfl) :
    PZ X CT U (.Call (.Name x p) (e :: es) [] pos) (eCall n g ga) := weakE (pe_makeS M F hr hg hm hb (fun σ => passAt tk σ) ha hdb he hpl) fun σ H Q ⟨s, S, ρ, gd, en, h⟩ =>
  ⟨s, S, ρ, gd, en, RG.step h fun ws S1 s1 H1 vs x1 g1 r1 h1 => by
    obtain ⟨ps, S2, s2, x2, g2, r2, h2⟩ := RG.frzs g1 r1 h1
    split at h2
    · rename_i hl
      intro a dx ha hdx hne
      have hb := RG.call g2 h2
      have eH : Ex H1 (upd (upd H1 dx (.own a)) a (.ins (CT c) dx [])) := fun b o e => by rw [upd_ne (ne_of_none e ha), upd_ne (ne_of_none e hdx)]; exact e
      refine ⟨s2.F, ps, a, dx, vs, rfl, g2.exF.trans eH, g2.exF.back ha, upd_same, hl, r2, ?_⟩
      have lf : ∀ {F' H' : Hp}, Left s2.F (fun b => if b = a then none else upd (upd H1 dx (.own a)) a (.ins (CT c) dx []) b) F' H' → Left s2.F H1 F' H' := fun l =>
        ⟨l.f, fun b o e => l.h b o (by
          have := ne_of_none e ha
          rw [if_neg this]; exact eH b o e), l.fh, fun b q1 q2 => l.new b q1 (by
          have : b ≠ a := fun z => q2 (by rw [z]; exact ha)
          rw [if_neg this, upd_ne this]
          by_cases z : b = dx
          · rw [z, upd_same]; simp
          · rw [upd_ne z]; exact q2)⟩
      cases er : g ps with
      | ok q =>
        rw [er] at hb
        intro F' H' v l rv e
        subst e
        exact ⟨rfl, hb F' H' _ (lf l) rv⟩
      | ex x => rw [er] at hb; exact fun F' H' c dd l rv => hb F' H' c dd (lf l) rv
      | bad => rw [er] at hb; exact hb.elim
    · exact h2.elim⟩
/-! ### raise X("..") of an own class without __init__ -/
def sRaise (c : Str) : FS := fun ρ S => .ex ⟨c, [], []⟩ ρ S
theorem zs_raise {W : WX} (hc : X.calm = true) (tk : Takes X U) (he : PMk X e (fun _ H Q => Q (.ref (CT c)) none H)) : PZS X CT U (.Raise (some e) none pos) (sRaise c) := weakS (ps_raise hc tk he) fun D σ H ⟨s, S, ρ, gd, en, h⟩ =>
  h s H σ _ _ (Ext.refl s) gd en ⟨rfl, .inl ⟨rfl, rfl, rfl⟩⟩
end
end Z
end
-- part Z9
section
set_option Elab.async false
set_option linter.all false
set_option maxRecDepth 100000
set_option autoImplicit false
namespace Z
open PySem PySem.Spec PyProof.Rows L2
/-! ### isinstance against a built-in type -/
def tyN : P → Option String
  | .non => some "NoneType"
  | .bl _ => some "bool"
  | .int _ => some "int"
  | .str _ => some "str"
  | .tup _ => some "tuple"
  | .lst _ => some "list"
  | .scr _ => some "list"
  | _ => none
def tyW (S : Store) : W → Option String
  | .val p => tyN p
  | .loc n => match S[n]? with
    | some (.lst _) => some "list"
    | some (.frz (.lst _)) => some "list"
    | _ => none
def isi (t T : String) : Bool := t == T || (t == "bool" && T == "int")
def isiW (T : String) : W → Store → RE W := fun w S => orBad ((tyW S w).map fun t => .val (.bl (isi t T))) S
def KitT (T : String) : Prop := ∀ t ∈ ["NoneType", "bool", "int", "str", "tuple", "list"], kitB t T = some (isi t T)
theorem kit_bool : KitT "bool" := by unfold KitT; decide +kernel
theorem kit_int : KitT "int" := by unfold KitT; decide +kernel
theorem kit_str : KitT "str" := by unfold KitT; decide +kernel
theorem kit_list : KitT "list" := by unfold KitT; decide +kernel
theorem kit_tuple : KitT "tuple" := by unfold KitT; decide +kernel
theorem kit_dict : KitT "dict" := by unfold KitT; decide +kernel
section
variable {X : Cx} {CT : Str → Addr} {U : WX} {a : Expr} {fa : FE W} {pos p p2 : Pos} {T : Str} {TN : String}
theorem tyW_ok {K : PySem.W.Frag} {s : Fs} {S : Store} {H : Hp} (g : Gd K CT s S H) {w : W} {v : V} {t : String} (r : RepW K CT s w v) (e : tyW S w = some t) : TyX K H v (.type t) ∧ t ∈ ["NoneType", "bool", "int", "str", "tuple", "list"] := by
  cases w with
  | val p =>
    cases p with
    | non => cases e; rw [show v = _ from r]; exact ⟨.base .non, by decide⟩
    | bl b => cases e; rw [show v = _ from r]; exact ⟨.base (.bl b), by decide⟩
    | int b => cases e; rw [show v = _ from r]; exact ⟨.base (.int b), by decide⟩
    | str b => cases e; rw [show v = _ from r]; exact ⟨.base (.str b), by decide⟩
    | tup ps =>
      cases e
      obtain ⟨a, vs, rfl, h1, _⟩ := r
      refine ⟨?_, by decide⟩
      rcases g.exF.st h1 with (h | ⟨o, h⟩) | ⟨o, its, n, h, hc, _⟩
      · exact .base (.tup h)
      · exact .fTuple h
      · exact .kTuple h hc
    | lst ps => cases e; obtain ⟨a, vs, rfl, h1, _⟩ := r; exact ⟨.base (.lst (g.exF _ _ h1)), by decide⟩
    | scr ns =>
      cases e
      obtain ⟨a, rfl, h1⟩ := r
      refine ⟨?_, by decide⟩
      rcases g.exF.sl h1 with (h | ⟨o, h⟩) | ⟨o, its, n, h, hc, _⟩
      · exact .base (.lst h)
      · exact .base (.frz h)
      · exact .kList h hc
    | _ => cases e
  | loc n =>
    obtain ⟨a, h1, rfl⟩ := r
    unfold tyW at e
    cases hc : S[n]? with
    | none => simp [hc] at e
    | some c =>
      have q := g.cells n _ a hc h1
      cases c with
      | ins c ns ws => simp [hc] at e
      | lst ws' => simp only [hc] at e; cases e; obtain ⟨_, _, vs, q3, q4⟩ := q; exact ⟨.base (.lst q3), by decide⟩
      | frz p =>
        cases p with
        | lst ps => simp only [hc] at e; cases e; obtain ⟨b, vs, hb, q3, q4⟩ := q; cases hb; exact ⟨.base (.lst (g.exF _ _ q3)), by decide⟩
        | _ => simp [hc] at e
theorem pz_isi (hk : KitT TN) (hg : Gl X "isinstance") (hm : X.mg "isinstance" = none) (hgT : Gl X T) (hmT : X.mg T = none) (hvT : bootBuiltins T = some (.type TN)) (ha : PZ X CT U a fa) (hT : T ≠ "__name__" := by decide) (hTd : (T == ("__debug__" : Str)) = false := by decide)
    (he : starEach [a, .Name T p2] X.env = (false, eval a X.env) :: starEach [.Name T p2] X.env := by rfl) : PZ X CT U (.Call (.Name "isinstance" p) [a, .Name T p2] [] pos) (eUn (isiW TN) fa) :=
  weakE (pe_callB call_isi hg hm (by decide +kernel) (pa_cons ha (pa_cons (pe_bltn (v := .ty TN) hgT hmT hvT rfl hT hTd) pa_nil (by rfl)) he) (by decide) (by decide) he (by rfl)) fun σ H Q ⟨s, S, ρ, gd, en, h⟩ =>
  ⟨s, S, ρ, gd, en, RG.step h fun w S1 s1 H1 v x1 g1 r1 h1 => by
    obtain ⟨u, e, h1⟩ := RG.orBad h1
    simp only [Option.map_eq_some_iff] at e
    obtain ⟨t, e, rfl⟩ := e
    obtain ⟨ty, ht⟩ := tyW_ok g1 r1 e
    exact ⟨v, .ty TN, .type t, .type TN, isi t TN, rfl, .ty TN, ty, kit_ty (hk t ht), RG.here h1 g1 rfl⟩⟩
end
end Z
end
-- part Z10
section
set_option Elab.async false
set_option linter.all false
set_option maxRecDepth 100000
set_option autoImplicit false
namespace Z
open PySem PySem.Spec PyProof.Rows L2

/-! ### targets in the text -/
section
variable {X : Cx} {CT : Str → Addr} {U : WX} {pos : Pos}
theorem zg_name (i : Nat) {x : Str} (hN : X.N.Nodup) (hi : X.N[i]? = some x := by rfl) (hx : Loc X.env.scope x := by first | exact Or.inl rfl | exact Or.inr rfl) (hf : X.fn x = true ∨ X.env.scope.names.lookup x = some .local := by first | exact .inl rfl | exact .inr rfl | assumption) :
    PG X (.Name x pos) (tgG X.K (.nm i)) := pg_name hN hi hx hf
abbrev ZGs (X : Cx) (es : List Expr) (ts : List Tg) : Prop := PGs X es (tgGs X.K ts)
theorem zgs_nil : ZGs X [] [] := pgs_nil
theorem zgs_cons {e : Expr} {es : List Expr} {t : Tg} {ts : List Tg} (h1 : PG X e (tgG X.K t)) (h2 : ZGs X es ts) (hs : (assignEach (e :: es) X.env).map (·.2) = assign e X.env :: (assignEach es X.env).map (·.2) := by rfl) : ZGs X (e :: es) (t :: ts) := pgs_cons h1 h2 hs
theorem zg_tup {es : List Expr} {ts : List Tg} {k : Nat} (hc : X.calm = true) (h : ZGs X es ts) (hn : (assignEach es X.env).length = ts.length := by rfl) (hst : (assignEach es X.env).findIdx? (·.1) = none := by rfl) : PG X (.Tuple es k pos) (tgG X.K (.tp ts)) := pg_tup hc h hn hst
theorem tk0 : Takes X U0 := takes0
end

/-! ### a def, called by its name -/
def CallF (P' : Program) (w : World) (K : PySem.W.Frag) (mg : Str → Option Value) (base : Heap) (CT : Str → Addr) (x : Str) (n k : Nat) (g : List P → Rp) : Prop :=
  ∃ f fd ps, FnOk P' w K mg base (L2.CX P' w) k f fd ps (spP K CT n g) ∧ mg x = some (.ref f) ∧ PySem.W.keepIn K (.ref f) = true ∧ Binds K fd ps []
def MethF (P' : Program) (w : World) (K : PySem.W.Frag) (mg : Str → Option Value) (base : Heap) (CT : Str → Addr) (c m : Str) (n k : Nat) (g : List P → Rp) : Prop :=
  ∃ f fd ps, FnOk P' w K mg base (L2.CX P' w) k f fd ps (spP K CT n g) ∧ Meth K (CT c) m f ∧ Binds K fd ps [] ∧ Cls K (CT c)
def NewF (P' : Program) (w : World) (K : PySem.W.Frag) (mg : Str → Option Value) (base : Heap) (CT : Str → Addr) (c : Str) (n k : Nat) (g : List P → Rp) : Prop :=
  ∃ f fd ps, FnOk P' w K mg base (L2.CX P' w) k f fd ps (spI K CT c n g) ∧ Mk K (CT c) f ∧ mg c = some (.ref (CT c)) ∧ Binds K fd ps []
section
variable {X : Cx} {CT : Str → Addr} {U : WX} {e o : Expr} {es : List Expr} {fo : FE W} {ga : FE (List W)} {pos p apos : Pos} {x m c : Str} {k j n : Nat} {g : List P → Rp}
theorem pz_callF (C : CallF X.prog X.w X.K X.mg X.base CT x n k g) (hr : Room j X.A) (hjk : k ≤ j) (hg : Gl X x) (tk : Takes X U)
    (ha : PZA X CT U (e :: es) ga) (hdb : (x == ("__debug__" : Str)) = false := by decide) (he : starEach (e :: es) X.env = (false, eval e X.env) :: starEach es X.env := by rfl) (hpl : (backTo pos (starEach es X.env)).any (·.1) = false := by rfl) :
    PZ X CT U (.Call (.Name x p) (e :: es) [] pos) (eCall n g ga) := by
  obtain ⟨f, fd, ps, F, h1, h2, h3⟩ := C
  exact pz_call F (hr.mono hjk) hg h1 h2 h3 tk ha hdb he hpl
theorem pz_newF (C : NewF X.prog X.w X.K X.mg X.base CT x n k g) (hr : Room j X.A) (hjk : k + 1 ≤ j) (hg : Gl X x) (tk : Takes X U)
    (ha : PZA X CT U (e :: es) ga) (hdb : (x == ("__debug__" : Str)) = false := by decide) (he : starEach (e :: es) X.env = (false, eval e X.env) :: starEach es X.env := by rfl) (hpl : (backTo pos (starEach es X.env)).any (·.1) = false := by rfl) :
    PZ X CT U (.Call (.Name x p) (e :: es) [] pos) (eCall n g ga) := by
  obtain ⟨f, fd, ps, F, h1, h2, h3⟩ := C
  exact pz_new h1 F (hr.mono hjk) hg h2 h3 tk ha hdb he hpl
theorem pz_methF {pl : Sem Bool} (C : MethF X.prog X.w X.K X.mg X.base CT c m n k g) (hr : Room j X.A) (hjk : k ≤ j) (tk : Takes X U) (ho : PZ X CT U o fo) (ha : PZA X CT U (e :: es) ga)
    (hst : starEach (e :: es) X.env = (false, eval e X.env) :: starEach es X.env := by rfl) (hpl : (backTo pos (starEach es X.env)).any (·.1) = false := by rfl)
    (ht : eval (.Call (.Attribute o m apos) (e :: es) [] pos) X.env = (do
      let ov ← eval o X.env
      standAt apos.atName
      let (f, first) ← holding [ov] (getMethod ov m pl)
      callWith pos f first (backTo pos (starEach (e :: es) X.env)) (backToKw pos (keywordEach [] X.env))) := by rfl) : PZ X CT U (.Call (.Attribute o m apos) (e :: es) [] pos) (eMeth c m n g fo ga) := by
  obtain ⟨f, fd, ps, F, h1, h2, h3⟩ := C
  exact pz_meth (pl := pl) h3 h1 F (hr.mono hjk) h2 tk ho ha hst hpl ht
theorem pz_methF0 {pl : Sem Bool} (C : MethF X.prog X.w X.K X.mg X.base CT c m n k g) (hr : Room j X.A) (hjk : k ≤ j) (tk : Takes X U) (ho : PZ X CT U o fo)
    (ht : eval (.Call (.Attribute o m apos) [] [] pos) X.env = (do
      let ov ← eval o X.env
      standAt apos.atName
      let (f, first) ← holding [ov] (getMethod ov m pl)
      callWith pos f first (backTo pos (starEach [] X.env)) (backToKw pos (keywordEach [] X.env))) := by rfl) : PZ X CT U (.Call (.Attribute o m apos) [] [] pos) (eMeth c m n g fo aNil) := by
  obtain ⟨f, fd, ps, F, h1, h2, h3⟩ := C
  exact pz_meth0 (pl := pl) h3 h1 F (hr.mono hjk) h2 tk ho ht
/-! ### exceptions of the program -/
structure ExcF (K : PySem.W.Frag) (mg : Str → Option Value) (CT : Str → Addr) (c : Str) : Prop where
  x : PySem.W.excIn K (CT c) [.type "ValueError", .type "Exception", .type "BaseException", .type "object"] "ValueError.__new__" = true
  g : mg c = some (.ref (CT c))
  k : PySem.W.keepIn K (.ref (CT c)) = true
  b : PySem.W.subIn K (.ref (CT c)) (.type "BaseException") = some true
  t : PySem.W.typeIn K (.ref (CT c)) = some (.type "type")
theorem zs_raiseF {mm : Str} {jj : Nat} {p2 : Pos} (E : ExcF X.K X.mg CT x) (hc : X.calm = true) (tk : Takes X U) (hg : Gl X x) (hdb : (x == ("__debug__" : Str)) = false := by decide) :
    PZS X CT U (.Raise (some (.Call (.Name x p) [.Constant (.str mm) jj p2] [] apos)) none pos) (sRaise x) :=
  zs_raise (W := U) hc tk (pmk_own PySem.F.excBase_ValueError E.x E.g E.k (raises_own E.b E.t) hg hdb)
/-! ### try .. except X: .. (several clauses, no names) -/
def tryGo (M : Str → Str → Option Bool) : List (Str × FS) → Xn → Env → Store → R
  | [], x, ρ, S => .ex x ρ S
  | (c, f) :: hs, x, ρ, S => match M x.cls c with
    | some true => match f ρ S with
      | .ex _ _ _ => .bad
      | r => r
    | some false => tryGo M hs x ρ S
    | none => .bad
def sTry (M : Str → Str → Option Bool) (body : FS) (hs : List (Str × FS)) : FS := fun ρ S => match body ρ S with
  | .ex x ρ' S' => tryGo M hs x ρ' S'
  | r => r
def ExmF (K : PySem.W.Frag) (CT : Str → Addr) (M : Str → Str → Option Bool) : Prop := ∀ r c b, M r c = some b → PySem.W.exmOne K (.ref (CT r)) (.ref (CT c)) = some b
abbrev hdl (K : PySem.W.Frag) (CT : Str → Addr) (hs : List (Str × FS)) : List (Value × (Addr → Value → Option Addr → TS)) := hs.map fun q => (.ref (CT q.1), fun _ _ _ => canS K CT U0 q.2)
theorem try_wish {K : PySem.W.Frag} {M : Str → Str → Option Bool} (hM : ExmF K CT M) {s : Fs} {x : Xn} {ρ : Env} {S : Store} {D : Ends} : ∀ {hs : List (Str × FS)}, RS K CT s (tryGo M hs x ρ S) D U → RS K CT s (.ex x ρ S) D (wMany K U D (hdl K CT hs))
  | [], h => h
  | (c, f) :: hs, h => by
    intro s' H' σ' cv dd x1 g en rx
    have hc : cv = .ref (CT x.cls) := rx.1
    unfold tryGo at h
    cases em : M x.cls c with
    | none => rw [em] at h; exact h.elim
    | some b =>
      rw [em] at h
      refine ⟨b, by rw [hc]; exact hM _ _ _ em, fun hb a ha => ?_, fun hb => ?_⟩
      · subst hb
        refine ⟨s', S, ρ, g, en, ?_⟩
        have h := RS.ext x1 h
        cases ef : f ρ S with
        | ex x2 ρ2 S2 => rw [ef] at h; exact h.elim
        | nx ρ2 S2 => rw [ef] at h; show RS K CT s' (f ρ S) D U0; rw [ef]; exact h
        | bk ρ2 S2 => rw [ef] at h; show RS K CT s' (f ρ S) D U0; rw [ef]; exact h
        | ct ρ2 S2 => rw [ef] at h; show RS K CT s' (f ρ S) D U0; rw [ef]; exact h
        | rt ρ2 S2 => rw [ef] at h; show RS K CT s' (f ρ S) D U0; rw [ef]; exact h
        | bad => rw [ef] at h; show RS K CT s' (f ρ S) D U0; rw [ef]; exact h
      · subst hb
        exact try_wish hM h s' H' σ' cv dd x1 g en rx
theorem try_can {K : PySem.W.Frag} {M : Str → Str → Option Bool} (hM : ExmF K CT M) {body : FS} {hs : List (Str × FS)} {D : Ends} {σ : L2.St} {H : Hp} (h : canS K CT U (sTry M body hs) D σ H) : canS K CT (wMany K U D (hdl K CT hs)) body D σ H := by
  obtain ⟨s, S, ρ, g, en, h⟩ := h
  refine ⟨s, S, ρ, g, en, ?_⟩
  unfold sTry at h
  cases ef : body ρ S with
  | ex x2 ρ2 S2 => rw [ef] at h; exact try_wish hM h
  | nx ρ2 S2 => rw [ef] at h; exact h
  | bk ρ2 S2 => rw [ef] at h; exact h
  | ct ρ2 S2 => rw [ef] at h; exact h
  | rt ρ2 S2 => rw [ef] at h; exact h
  | bad => rw [ef] at h; exact h
theorem zs_try {M : Str → Str → Option Bool} {body : List Stmt} {h₀ : ExceptHandler} {hds : List ExceptHandler} {fb : FS} {hs : List (Str × FS)} (hM : ExmF X.K CT M) (hst : X.stack = X.env :: X.outer) (hf : X.env.frame = some X.env.locals) (tk : Takes X U)
    (hb : ∀ (W : WX) (pn : List (Addr × Obj)) (xe : Value → Shared → Prop), Takes (X.tr pn xe) W → PassesOwn (model X.prog X.w) X.A X.env xe → PZSs (X.tr pn xe) CT W body fb)
    (hh : HdsOk X (h₀ :: hds) (hdl X.K CT hs)) : PZS X CT U (.Try body (h₀ :: hds) [] [] pos) (sTry M fb hs) :=
  weakS (ps_try_many (tb := fun W => canS X.K CT W fb) (l := hdl X.K CT hs) hst hf tk hb hh) fun D σ H h => try_can hM h
theorem zh_nil : HdsOk X [] (hdl X.K CT []) := .nil
theorem zh_cons {b₀ : Stmt} {suite : List Stmt} {np pos' : Pos} {hds : List ExceptHandler} {hs : List (Str × FS)} {f : FS} (hg : Gl X x) (hm : X.mg x = some (.ref (CT x)))
    (hsu : ∀ (a : Addr) (oe : Obj) (cls : Value) (d : Option Addr) (pn : List (Addr × Obj)), PZSs (X.suite a ((a, oe) :: pn)) CT U0 (b₀ :: suite) f) (r : HdsOk X hds (hdl X.K CT hs)) (hdb : (x == ("__debug__" : Str)) = false := by decide) :
    HdsOk X (.ExceptHandler (some (.Name x np)) none (b₀ :: suite) pos' :: hds) (hdl X.K CT ((x, f) :: hs)) := .cons ⟨hg, hdb, .inl hm⟩ (fun a oe cls d pn _ _ => hsu a oe cls d pn) r
end
theorem fn_bad {K : PySem.W.Frag} {CT : Str → Addr} {P' : Program} {w : World} {mg : Str → Option Value} {base : Heap} {x qual : Str} {st : Stmt} {f : Addr} {fd : FuncData} {N ps : List Str} {k n : Nat} {dvs : List V} {kws : List (Str × V)} (F : FunD K x qual (defArgs st) (defBody st) (defScope st) dvs kws f fd) (S : FnScope N ps (defScope st)) :
    FnOk P' w K mg base (L2.CX P' w) (k + 1) f fd ps (spP K CT n (fun _ => .bad)) :=
  F.ok S (fun vs H Q E ⟨_, _, _, _, _, h⟩ => h.elim) fun cdv A outer s H vs Q E hr ⟨_, _, _, _, _, h⟩ => h.elim
theorem CallF.mono {P' : Program} {w : World} {K : PySem.W.Frag} {mg : Str → Option Value} {base : Heap} {CT : Str → Addr} {x : Str} {n k k' : Nat} {g : List P → Rp} (h : CallF P' w K mg base CT x n k g) (hk : k ≤ k') : CallF P' w K mg base CT x n k' g :=
  let ⟨f, fd, ps, F, r⟩ := h
  ⟨f, fd, ps, F.mono hk, r⟩
end Z
namespace Z
open PySem PySem.Spec PyProof.Rows L2
section
variable {X : Cx} {CT : Str → Addr} {U : WX} {elt tg iter : Expr} {ifs : List Expr} {scope : Scope} {own : List (Str × Nat)} {pos spos py : Pos} {fi : FI} {t : Tg} {c : FE Bool} {e : FE W} {y : Str}
theorem zs_setLc (i : Nat) (hc : X.calm = true) (hN : X.N.Nodup) (hi : PZI X CT U tg iter fi) (ok : BlkOk X.N X.env.scope scope own)
    (hg : ∀ (s : Shared) (H : Hp) (C : Addr) (cl : List (Str × Addr)) (fp : List Addr), PG (X.blk s H scope (compEnvC scope cl C X.env) fp) tg (tgG X.K t)) (ht : ∀ (s : Shared) (H : Hp) (C : Addr) (cl : List (Str × Addr)) (fp : List Addr), PTs (X.blk s H scope (compEnvC scope cl C X.env) fp) ifs (canT X.K CT U0 c))
    (he : ∀ (s : Shared) (H : Hp) (C : Addr) (cl : List (Str × Addr)) (fp : List Addr), PE (X.blk s H scope (compEnvC scope cl C X.env) fp) elt (canE X.K CT U0 e)) (hsl : ∀ i ∈ slots t, i ∈ own.map (·.2)) (hsw : swapsWith (.ListComp elt [⟨tg, iter, ifs, 0⟩] scope pos) (some (.Name y py)) spos.line X.env = pure true)
    (hy : X.N[i]? = some y := by rfl) (hyl : X.env.scope.names.lookup y = some .local := by rfl) (hs : ∀ x, foldedSetIterable iter X.env x = pure x := by intro _; rfl) :
    PZS X CT U (.Assign [.Name y py] (.ListComp elt [⟨tg, iter, ifs, 0⟩] scope pos) spos) (sAsg i (eLc fi (own.map (·.2)) t c e)) := weakS (ps_setLc hc hN hy hyl hsw hi ok hg ht he hs) fun D σ H ⟨s, S, ρ, gd, en, h⟩ =>
  ⟨s, S, ρ, gd, en, RS.step (r := fi ρ S) (k := fun ps S1 => RE.toR (if ps.length ≤ 100000 then (lcGo (own.map (·.2)) t c e ρ ps S1).bind fun qs S2 => .ok (.val (.lst qs)) S2 else .bad) ρ fun w S' => .nx (ρ.set i (some w)) S') (by
      unfold sAsg eLc at h
      cases er : fi ρ S with
      | ok a S => rw [er] at h; exact h
      | ex a S => rw [er] at h; exact h
      | bad => rw [er] at h; exact h) en fun ps S1 s1 H1 J x1 g1 w1 h1 D0 hD => by
    split at h1
    · rename_i hsz
      exact lc_go g1 (en.mono x1) hD hsz hsl w1 (RS.step h1 (en.mono x1) fun w S2 s2 H2 v x2 g2 r2 h2 => RS.here h2 g2 (((en.mono x1).mono x2).set r2))
    · exact h1.elim⟩
theorem ipz_sub {K : PySem.W.Frag} : IpZ K CT (ipI fun i j => i - j) subW := ipz_int (fun i j S => rfl) (fun a b S => by
  unfold subW iOp
  split
  · rename_i i j; exact .inl ⟨i, j, rfl, rfl⟩
  · exact .inr rfl)
abbrev iaddW : O2 := iOp (fun _ _ => true) fun i j => .int (i + j)
theorem ipz_add {K : PySem.W.Frag} : IpZ K CT (ipI fun i j => i + j) iaddW := ipz_int (fun i j S => rfl) (fun a b S => by
  unfold iaddW iOp
  split
  · rename_i i j; exact .inl ⟨i, j, rfl, rfl⟩
  · exact .inr rfl)
theorem glo_int {K : PySem.W.Frag} {mg : Str → Option Value} {x : Str} {i : Int} (h : ∃ t, mg x = some (.int i t)) : GloOk K CT mg x (.int i) := let ⟨t, e⟩ := h; ⟨_, .int i, e, ⟨t, rfl⟩, rfl⟩
theorem glo_str {K : PySem.W.Frag} {mg : Str → Option Value} {x z : Str} (h : ∃ t, mg x = some (.str z t)) : GloOk K CT mg x (.str z) := let ⟨t, e⟩ := h; ⟨_, .str z, e, ⟨t, rfl⟩, rfl⟩
/-- a tuple of texts and numbers at the top -/
def DvP : List He.Dv → List P
  | [] => []
  | .int i :: r => .int i :: DvP r
  | .str x :: r => .str x :: DvP r
  | _ :: r => DvP r
end
end Z
end
-- part Z11
section
set_option Elab.async false
set_option linter.all false
set_option maxRecDepth 100000
set_option autoImplicit false
namespace Z
open PySem PySem.Spec PyProof.Rows L2
section
variable {X : Cx} {CT : Str → Addr} {U : WX} {a : Expr} {ga : FE (List W)} {pos p : Pos}
/-- tuple(list), tuple(tuple) -/
def tupleW : List W → Store → RE W
  | [.val (.tup ps)], S => .ok (.val (.tup ps)) S
  | [w], S => match seqW S w with
    | some ws => (doFrzs ws S).bind fun ps S2 => .ok (.val (.tup ps)) S2
    | none => .bad
  | _, _ => .bad
theorem cz_tuple {K : PySem.W.Frag} : CallZ K CT (fun xs H Q => ∃ p ys, xs = [.ref p] ∧ ((SqL K H p ys ∧ ∀ l, H l = none → Q (.ref l) (upd H l (.tup ys))) ∨ (SqT K H p ys ∧ Q (.ref p) H))) tupleW := fun s S H ws vs Q EX gd r h => by
  unfold tupleW at h
  split at h
  · rename_i ps
    obtain ⟨v, rfl, rw⟩ := rep1 r
    obtain ⟨a, vs, rfl, h1, h2⟩ := id rw
    exact ⟨a, vs, rfl, .inr ⟨gd.exF.st h1, RG.here h gd rw⟩⟩
  · rename_i w _
    obtain ⟨v, rfl, rw⟩ := rep1 r
    split at h
    · rename_i ws e
      obtain ⟨a, vs, rfl, h1, h2⟩ := seqW_ok gd rw e
      obtain ⟨ps, S2, s2, x2, g2, r2, h2⟩ := RG.frzs gd h2 h
      exact ⟨a, vs, rfl, .inl ⟨h1, fun p hp => RG.new h2 g2 hp fun F' e q => ⟨p, _, rfl, .inl (.inl q), r2.mono e⟩⟩⟩
    · exact h.elim
  · exact h.elim
theorem pz_tuple (hg : Gl X "tuple") (hm : X.mg "tuple" = none) (ha : PZA X CT U [a] ga) (he : starEach [a] X.env = (false, eval a X.env) :: starEach [] X.env := by rfl) : PZ X CT U (.Call (.Name "tuple" p) [a] [] pos) (eCB tupleW ga) :=
  pz_callTy call_tuple_of cz_tuple hg hm (by decide +kernel) ha (by decide) (by decide) he rfl
end

/-! ### tables of exceptions -/
theorem lookup_mem {α β : Type} [BEq α] [LawfulBEq α] {k : α} {v : β} : ∀ {l : List (α × β)}, l.lookup k = some v → (k, v) ∈ l
  | [], h => by cases h
  | (a, b) :: l, h => by
    rw [List.lookup_cons] at h
    cases e : k == a with
    | true =>
      rw [e] at h
      cases h
      rw [eq_of_beq e]
      exact List.mem_cons_self
    | false =>
      rw [e] at h
      exact List.mem_cons_of_mem _ (lookup_mem h)
section
variable {K : PySem.W.Frag} {h : Heap} {mg : Str → Option Value} {CT : Str → Addr}
theorem exc_mk {x : Str} (c : PySem.W.excIn K (CT x) He.veBase "ValueError.__new__" = true ∧ PySem.W.keepIn K (.ref (CT x)) = true ∧ PySem.W.subIn K (.ref (CT x)) (.type "BaseException") = some true ∧
    PySem.W.typeIn K (.ref (CT x)) = some (.type "type")) (g : mg x = some (.ref (CT x))) : ExcF K mg CT x := ⟨c.1, g, c.2.1, c.2.2.1, c.2.2.2⟩
/-- texts and numbers of a table -/
def dvOk : He.Dv → Bool
  | .int _ => true
  | .str _ => true
  | _ => false
def dvP : He.Dv → P
  | .int i => .int i
  | .str x => .str x
  | _ => .non
theorem dv_rep {F : Hp} : ∀ {ds : List He.Dv}, ds.all dvOk = true → RepL K CT F (ds.map dvP) (ds.map (He.Dv.v K))
  | [], _ => rfl
  | d :: ds, e => by
    rw [List.all_cons, Bool.and_eq_true] at e
    cases d with
    | int i => exact ⟨_, _, rfl, rfl, dv_rep e.2⟩
    | str i => exact ⟨_, _, rfl, rfl, dv_rep e.2⟩
    | _ => exact absurd e.1 (by simp [dvOk])
theorem glo_tup {x : Str} {ds : List He.Dv} (c : He.tupB K x ds = true) (g : mg x = some (.ref (He.ga K x))) (e : ds.all dvOk = true) (ps : List P) (hp : ds.map dvP = ps := by rfl) : GloOk K CT mg x (.tup ps) := by
  subst hp
  exact ⟨_, .ref (He.ga K x), g, rfl, _, _, rfl, He.tupB_ok c _, dv_rep e⟩
end

/-! ### a hook with facts, defs and a further check -/
abbrev AlM : Type := He.AlD × Bool
def obsM (fa : List He.Fa) (fn : List He.DefD) (mo : PySem.W.Frag → Bool) (K : PySem.W.Frag) : AlM := (He.obsD fa fn K, mo K)
structure SaysM (fa : List He.Fa) (fn : List He.DefD) (mo : PySem.W.Frag → Bool) (K : PySem.W.Frag) : Prop where
  d : He.SaysD fa fn K
  more : mo K = true
def obsMG (n : Nat) (fa : List He.Fa) (fn : List He.DefD) (mo : PySem.W.Frag → Bool) (g : Addr → Option Obj) : AlM := obsM fa fn mo (He.frG g (He.asD g n))
def hookM (n : Nat) (fa : List He.Fa) (fn : List He.DefD) (mo : PySem.W.Frag → Bool) : PySem.W.Hook where
  α := AlM
  obs := fun s => obsMG n fa fn mo s.heap.get?
  val := fun _ => (He.valD fn, true)
  says := fun _ h => ∃ K : PySem.W.Frag, K.In h ∧ SaysM fa fn mo K
  of := fun _ _ e => ⟨_, He.frG_in, congrArg (fun z : AlM => z.1) e, congrArg (fun z : AlM => z.2) e⟩
  keeps := fun _ _ _ ⟨K, hK, c⟩ k => ⟨K, PySem.W.Frag.In.keeps hK k, c⟩
theorem obsMG_eq {n : Nat} {fa : List He.Fa} {fn : List He.DefD} {mo : PySem.W.Frag → Bool} {g : Addr → Option Obj} {s : Shared} (h : ∀ a, g a = s.heap.get? a) : obsMG n fa fn mo g = (hookM n fa fn mo).obs s := by
  have e : g = s.heap.get? := funext h
  rw [e] <;> rfl
section
variable {fa : List He.Fa} {fn : List He.DefD} {mo : PySem.W.Frag → Bool} {K : PySem.W.Frag}
theorem SaysM.fact (c : SaysM fa fn mo K) (i : Nat) {f : He.Fa} (h : fa[i]? = some f := by rfl) : f.ok K = true := c.d.fact i h
theorem SaysM.def_ (c : SaysM fa fn mo K) (i : Nat) {d : He.DefD} (h : fn[i]? = some d := by rfl) : ∃ fd, FunD K d.name d.qual d.params d.body d.scope (d.dvs K) (d.kws K) (He.fAd K d.at_) fd := c.d.def_ i h
end

/-! ### a law's end -/
theorem walk_ofZ {l : PySem.W.OpenLaw} {n k : Nat} {q : Program} {loose : List Str} {XP : (Str → Option Value) → Heap → Prop} {YP : World → Heap → Prop} {d : DefRec} {x : Str}
    (hn : l.most = some n) (hn2 : n ≤ sizeLine) (hdf : d.params.defaults = []) (hr : Room k callerA)
    (F : ∀ (w : World) (mg : Str → Option Value) (fa : Addr) (h : Heap), YP w h → h.Ns mainGlobals mg → mg d.name = some (.ref fa) →
      ∃ (K : PySem.W.Frag) (fd : FuncData) (sp : Sp), K.In h ∧ (∀ (s : Shared) (u : Value), BindsTo s fd ⟨[u], []⟩ [(x, u)]) ∧
        (∀ (H : Hp) (a : Addr) (ns : List Int), ns.length ≤ n → Only H → SqL K H a (ns.map V.int) → sp [.ref a] H (fun v _ => v = .bl true) fun _ _ _ => False) ∧
        ∀ base : Heap, K.In base → base.Ns mainGlobals mg → FnOk l.prog w K mg base (L2.CX l.prog w) k fa fd [x] sp) :
    PySem.W.WalkO q loose XP YP l.row.toRowW d [] (fun f vs => PySem.call f vs) := by
  refine Att.attach_call hn hdf fun w s₀ s₁ mg mb fa o pm cd doc a vs ns G Y ho hd hcd hmg hobj hints hlen hg => ?_
  obtain ⟨K, fd, sp, KX, hb, hsp, hF⟩ := F w mg fa _ Y G.T.g hmg
  exact law_call KX G.T.g G.T.b G.T.builtins G.T.nolimit hg hobj hints (Nat.le_trans hlen hn2) hr hF hb (fun H hO hS => hsp H a ns hlen hO hS) fun H e s' ⟨_, _, _, _, _, _, _, _, _, _, _, _, h⟩ => h
theorem sp_law {K : PySem.W.Frag} {CT : Str → Addr} {m : List P → Rp} {n : Nat} (h : ∀ ns : List Int, ns.length ≤ n → m [.scr ns] = .ok (.bl true)) (H : Hp) (a : Addr) (ns : List Int) (hl : ns.length ≤ n) (S : SqL K H a (ns.map V.int)) :
    spP K CT 1 m [.ref a] H (fun v _ => v = .bl true) fun _ _ _ => False :=
  ⟨H, [.scr ns], Ex.refl _, rfl, ⟨_, _, rfl, ⟨a, rfl, S⟩, rfl⟩, by
    rw [h ns hl]
    exact fun F' H' v _ h => h⟩
end Z
end
-- part Z12
section
set_option Elab.async false
set_option linter.all false
set_option maxRecDepth 100000
set_option autoImplicit false
namespace Z
open PySem PySem.Spec PyProof.Rows L2
/-! # the plain side: rules that compute a mirror -/
theorem charN_inj {a b : Char} (h : a.toNat = b.toNat) : a = b := Char.ext (UInt32.toNat_inj.mp h)
@[simp] theorem ofString_inj {a b : String} : (Str.ofString a = Str.ofString b) ↔ (a = b) := by
  constructor
  · intro h
    rw [Str.ofString_eq_toList, Str.ofString_eq_toList] at h
    have h1 := congrArg (fun s => s.cps.toList) h
    simp only at h1
    have h2 : a.toList = b.toList := by
      have key : ∀ (l m : List Char), l.map Char.toNat = m.map Char.toNat → l = m := by
        intro l
        induction l with
        | nil => intro m h; cases m with
          | nil => rfl
          | cons _ _ => cases h
        | cons c l ih => intro m h; cases m with
          | nil => cases h
          | cons d m =>
            simp only [List.map_cons, List.cons.injEq] at h
            rw [charN_inj h.1, ih m h.2]
      exact key _ _ (by simpa using h1)
    exact String.toList_inj.mp h2
  · intro h; rw [h]
variable {α β σ : Type}
/-! bind, toR, sequence -/
@[simp] theorem rb_ok (a : α) (S : Store) (k : α → Store → RE β) : (RE.ok a S).bind k = k a S := id rfl
@[simp] theorem rb_ex (x : Xn) (S : Store) (k : α → Store → RE β) : (RE.ex x S : RE α).bind k = .ex x S := id rfl
@[simp] theorem rb_bad (k : α → Store → RE β) : (RE.bad : RE α).bind k = .bad := id rfl
@[simp] theorem rb_ite (c : Prop) [Decidable c] (a b : RE α) (k : α → Store → RE β) : (if c then a else b).bind k = if c then a.bind k else b.bind k := by split <;> rfl
@[simp] theorem tr_ok (a : α) (S : Store) (ρ : Env) (k : α → Store → R) : (RE.ok a S).toR ρ k = k a S := id rfl
@[simp] theorem tr_ex (x : Xn) (S : Store) (ρ : Env) (k : α → Store → R) : (RE.ex x S : RE α).toR ρ k = .ex x ρ S := id rfl
@[simp] theorem tr_bad (ρ : Env) (k : α → Store → R) : (RE.bad : RE α).toR ρ k = .bad := id rfl
@[simp] theorem tr_ite (c : Prop) [Decidable c] (a b : RE α) (ρ : Env) (k : α → Store → R) : (if c then a else b).toR ρ k = if c then a.toR ρ k else b.toR ρ k := by split <;> rfl
def R.seq (r : R) (g : FS) : R := match r with
  | .nx ρ' S' => g ρ' S'
  | r => r
@[simp] theorem sSeq_ap (f g : FS) (ρ : Env) (S : Store) : sSeq f g ρ S = (f ρ S).seq g := id rfl
@[simp] theorem rs_nx (ρ : Env) (S : Store) (g : FS) : (R.nx ρ S).seq g = g ρ S := id rfl
@[simp] theorem rs_rt (w : W) (S : Store) (g : FS) : (R.rt w S).seq g = .rt w S := id rfl
@[simp] theorem rs_bk (ρ : Env) (S : Store) (g : FS) : (R.bk ρ S).seq g = .bk ρ S := id rfl
@[simp] theorem rs_ct (ρ : Env) (S : Store) (g : FS) : (R.ct ρ S).seq g = .ct ρ S := id rfl
@[simp] theorem rs_ex (x : Xn) (ρ : Env) (S : Store) (g : FS) : (R.ex x ρ S).seq g = .ex x ρ S := id rfl
@[simp] theorem rs_bad (g : FS) : R.bad.seq g = .bad := id rfl
@[simp] theorem rs_ite (c : Prop) [Decidable c] (a b : R) (g : FS) : (if c then a else b).seq g = if c then a.seq g else b.seq g := by split <;> rfl
@[simp] theorem sSkip_ap (ρ : Env) (S : Store) : sSkip ρ S = .nx ρ S := id rfl
@[simp] theorem sBrk_ap (ρ : Env) (S : Store) : sBrk ρ S = .bk ρ S := id rfl
@[simp] theorem sCnt_ap (ρ : Env) (S : Store) : sCnt ρ S = .ct ρ S := id rfl
@[simp] theorem sRetN_ap (ρ : Env) (S : Store) : sRetN ρ S = .rt (.val .non) S := id rfl
@[simp] theorem sAsg_ap (i : Nat) (f : FE W) (ρ : Env) (S : Store) : sAsg i f ρ S = (f ρ S).toR ρ fun w S' => .nx (ρ.set i (some w)) S' := id rfl
@[simp] theorem sExpr_ap (f : FE W) (ρ : Env) (S : Store) : sExpr f ρ S = (f ρ S).toR ρ fun _ S' => .nx ρ S' := id rfl
@[simp] theorem sRet_ap (f : FE W) (ρ : Env) (S : Store) : sRet f ρ S = (f ρ S).toR ρ fun w S' => .rt w S' := id rfl
@[simp] theorem sIf_ap (c : FE Bool) (f g : FS) (ρ : Env) (S : Store) : sIf c f g ρ S = (c ρ S).toR ρ fun b S' => if b = true then f ρ S' else g ρ S' := id rfl
@[simp] theorem sFor_ap (fi : FI) (t : Tg) (body : FS) (ρ : Env) (S : Store) : sFor fi t body ρ S = (fi ρ S).toR ρ fun ps S1 => forGo t body ps ρ S1 := id rfl
@[simp] theorem sRaise_ap (c : Str) (ρ : Env) (S : Store) : sRaise c ρ S = .ex ⟨c, [], []⟩ ρ S := id rfl
def ixR (ρ : Env) (i : Nat) (k : W → R) : R := match ρ[i]? with
  | some (some a) => k a
  | _ => .bad
@[simp] theorem sAug_ap (i : Nat) (op : O2) (fe : FE W) (ρ : Env) (S : Store) : sAug i op fe ρ S = ixR ρ i fun a => (fe ρ S).toR ρ fun b S1 => (op a b S1).toR ρ fun w S2 => .nx (ρ.set i (some w)) S2 := id rfl
@[simp] theorem ixR_0 (w : W) (ρ : Env) (k : W → R) : ixR (some w :: ρ) 0 k = k w := id rfl
@[simp] theorem ixR_s (o : Option W) (ρ : Env) (i : Nat) (k : W → R) : ixR (o :: ρ) (i + 1) k = ixR ρ i k := id rfl
def bindR (o : Option Env) (S : Store) : R := match o with
  | some ρ => .nx ρ S
  | none => .bad
@[simp] theorem bindR_some (ρ : Env) (S : Store) : bindR (some ρ) S = .nx ρ S := id rfl
@[simp] theorem bindR_none (S : Store) : bindR none S = .bad := id rfl
@[simp] theorem sAsgT_ap (t : Tg) (f : FE W) (ρ : Env) (S : Store) : sAsgT t f ρ S = (f ρ S).toR ρ fun w S' => (doFrz w S').toR ρ fun p S2 => bindR (bindT t p ρ) S2 := by
  unfold sAsgT bindR
  congr 1
/-! names -/
@[simp] theorem eVar_0 (w : W) (ρ : Env) (S : Store) : eVar 0 (some w :: ρ) S = .ok w S := id rfl
@[simp] theorem eVar_s (o : Option W) (ρ : Env) (i : Nat) (S : Store) : eVar (i + 1) (o :: ρ) S = eVar i ρ S := id rfl
@[simp] theorem eCst_ap (p : P) (ρ : Env) (S : Store) : eCst p ρ S = .ok (.val p) S := id rfl
@[simp] theorem cYes_ap (ρ : Env) (S : Store) : cYes ρ S = .ok true S := id rfl
@[simp] theorem bindT_nm (i : Nat) (p : P) (ρ : Env) : bindT (.nm i) p ρ = some (ρ.set i (some (.val p))) := by simp [bindT]
@[simp] theorem bindT_tp (ts : List Tg) (ps : List P) (ρ : Env) : bindT (.tp ts) (.tup ps) ρ = bindTs ts ps ρ := by simp [bindT]
@[simp] theorem bindTs_nil (ρ : Env) : bindTs [] [] ρ = some ρ := by simp [bindTs]
@[simp] theorem bindTs_cons (t : Tg) (ts : List Tg) (p : P) (ps : List P) (ρ : Env) : bindTs (t :: ts) (p :: ps) ρ = (bindT t p ρ).bind (bindTs ts ps) := by simp [bindTs]
/-! arguments, operators -/
@[simp] theorem aNil_ap (ρ : Env) (S : Store) : aNil ρ S = .ok [] S := id rfl
@[simp] theorem aCons_ap (f : FE W) (r : FE (List W)) (ρ : Env) (S : Store) : aCons f r ρ S = (f ρ S).bind fun w S1 => (r ρ S1).bind fun ws S2 => .ok (w :: ws) S2 := id rfl
@[simp] theorem eBin_ap (op : O2) (fa fb : FE W) (ρ : Env) (S : Store) : eBin op fa fb ρ S = (fa ρ S).bind fun a S1 => (fb ρ S1).bind fun b S2 => op a b S2 := id rfl
@[simp] theorem eUn_ap (op : W → Store → RE W) (fa : FE W) (ρ : Env) (S : Store) : eUn op fa ρ S = (fa ρ S).bind fun a S1 => op a S1 := id rfl
@[simp] theorem asB_bl (b : Bool) (S : Store) : asB (.val (.bl b)) S = .ok b S := id rfl
@[simp] theorem tstB_ap (f : FE W) (ρ : Env) (S : Store) : tstB f ρ S = (f ρ S).bind asB := id rfl
@[simp] theorem tNotB_ap (f : FE Bool) (ρ : Env) (S : Store) : tNotB f ρ S = (f ρ S).bind fun b S1 => .ok (!b) S1 := id rfl
@[simp] theorem tAndB_ap (f u : FE Bool) (ρ : Env) (S : Store) : tAndB f u ρ S = (f ρ S).bind fun b S1 => if b = true then u ρ S1 else .ok false S1 := id rfl
@[simp] theorem tOrB_ap (f u : FE Bool) (ρ : Env) (S : Store) : tOrB f u ρ S = (f ρ S).bind fun b S1 => if b = true then .ok true S1 else u ρ S1 := id rfl
@[simp] theorem eChain_ap (g g' : O2) (fa fb fc : FE W) (ρ : Env) (S : Store) : eChain g g' fa fb fc ρ S = (fa ρ S).bind fun a S1 => (fb ρ S1).bind fun b S2 => (g a b S2).bind fun k S3 => (asB k S3).bind fun k S4 => if k = true then (fc ρ S4).bind fun c S5 => g' b c S5 else .ok (.val (.bl false)) S4 := id rfl
@[simp] theorem eAnd_ap (fa fb : FE W) (ρ : Env) (S : Store) : eAnd fa fb ρ S = (fa ρ S).bind fun a S1 => (asB a S1).bind fun k S2 => if k = true then fb ρ S2 else .ok (.val (.bl false)) S2 := id rfl
@[simp] theorem eOr_ap (fa fb : FE W) (ρ : Env) (S : Store) : eOr fa fb ρ S = (fa ρ S).bind fun a S1 => (asB a S1).bind fun k S2 => if k = true then .ok (.val (.bl true)) S2 else fb ρ S2 := id rfl
@[simp] theorem eNot_ap (fa : FE W) (ρ : Env) (S : Store) : eNot fa ρ S = (fa ρ S).bind fun a S1 => (asB a S1).bind fun k S2 => .ok (.val (.bl (!k))) S2 := id rfl
@[simp] theorem eIf_ap (t : FE Bool) (fa fb : FE W) (ρ : Env) (S : Store) : eIf t fa fb ρ S = (t ρ S).bind fun k S1 => if k = true then fa ρ S1 else fb ρ S1 := id rfl
@[simp] theorem iOp_int (C : Int → Int → Bool) (g : Int → Int → P) (i j : Int) (S : Store) : iOp C g (.val (.int i)) (.val (.int j)) S = if C i j = true then .ok (.val (g i j)) S else .bad := id rfl
@[simp] theorem negW_int (i : Int) (S : Store) : negW (.val (.int i)) S = .ok (.val (.int (-i))) S := id rfl
@[simp] theorem addW_int (i j : Int) (S : Store) : addW (.val (.int i)) (.val (.int j)) S = .ok (.val (.int (i + j))) S := id rfl
@[simp] theorem addW_str (i j : Str) (S : Store) : addW (.val (.str i)) (.val (.str j)) S = if i.length + j.length ≤ 1000000 then .ok (.val (.str (i ++ j))) S else .bad := id rfl
@[simp] theorem addW_tup (i j : List P) (S : Store) : addW (.val (.tup i)) (.val (.tup j)) S = if i.length + j.length ≤ 100000 then .ok (.val (.tup (i ++ j))) S else .bad := id rfl
@[simp] theorem addW_lst (i j : List P) (S : Store) : addW (.val (.lst i)) (.val (.lst j)) S = if i.length + j.length ≤ 100000 then .ok (.val (.lst (i ++ j))) S else .bad := id rfl
@[simp] theorem mulW_int (i j : Int) (S : Store) : mulW (.val (.int i)) (.val (.int j)) S = if mulOk i j = true then .ok (.val (.int (i * j))) S else .bad := id rfl
theorem mulOk_l {i j : Int} (h : i.natAbs < 2 ^ 64) : mulOk i j = true := by simp [mulOk, h]
theorem mulOk_r {i j : Int} (h : j.natAbs < 2 ^ 64) : mulOk i j = true := by simp [mulOk, h]
def eqR (neg : Bool) (o : Option Bool) (S : Store) : RE W := match o with
  | some k => .ok (.val (.bl (if neg = true then !k else k))) S
  | none => .bad
@[simp] theorem eqR_some (neg k : Bool) (S : Store) : eqR neg (some k) S = .ok (.val (.bl (if neg = true then !k else k))) S := id rfl
@[simp] theorem eqW_vv (neg : Bool) (p q : P) (S : Store) : eqW neg (.val p) (.val q) S = eqR neg (eqP p q) S := id rfl
@[simp] theorem eqP_int (i j : Int) : eqP (.int i) (.int j) = some (decide (i = j)) := id rfl
@[simp] theorem eqP_str (i j : Str) : eqP (.str i) (.str j) = some (decide (i = j)) := id rfl
@[simp] theorem eqP_bl (i j : Bool) : eqP (.bl i) (.bl j) = some (decide (i = j)) := id rfl
@[simp] theorem isW_non (neg : Bool) (S : Store) : isW neg (.val .non) (.val .non) S = .ok (.val (.bl (!neg))) S := by cases neg <;> rfl
@[simp] theorem isW_int (neg : Bool) (i : Int) (S : Store) : isW neg (.val (.int i)) (.val .non) S = .ok (.val (.bl neg)) S := by cases neg <;> rfl
@[simp] theorem isW_str (neg : Bool) (i : Str) (S : Store) : isW neg (.val (.str i)) (.val .non) S = .ok (.val (.bl neg)) S := by cases neg <;> rfl
@[simp] theorem isW_bl (neg : Bool) (i : Bool) (S : Store) : isW neg (.val (.bl i)) (.val .non) S = .ok (.val (.bl neg)) S := by cases neg <;> rfl
@[simp] theorem isW_blbl (neg : Bool) (i k : Bool) (S : Store) : isW neg (.val (.bl i)) (.val (.bl k)) S = .ok (.val (.bl (if neg = true then !(i == k) else i == k))) S := by cases neg <;> rfl
@[simp] theorem isW_tup (neg : Bool) (i : List P) (S : Store) : isW neg (.val (.tup i)) (.val .non) S = .ok (.val (.bl neg)) S := by cases neg <;> rfl
@[simp] theorem isW_lst (neg : Bool) (i : List P) (S : Store) : isW neg (.val (.lst i)) (.val .non) S = .ok (.val (.bl neg)) S := by cases neg <;> rfl
@[simp] theorem isW_loc (neg : Bool) (i : Nat) (S : Store) : isW neg (.loc i) (.val .non) S = .ok (.val (.bl neg)) S := by cases neg <;> rfl
/-! freezing -/
@[simp] theorem doFrz_val (p : P) (S : Store) : doFrz (.val p) S = .ok p S := id rfl
@[simp] theorem frzs_nil (S : Store) : frzs S [] = some ([], S) := id rfl
@[simp] theorem frzs_val (p : P) (ws : List W) (S : Store) : frzs S (.val p :: ws) = (frzs S ws).map fun q => (p :: q.1, q.2) := by rw [frzs]; rfl
theorem frzs_vals (S : Store) : ∀ ps : List P, frzs S (ps.map .val) = some (ps, S)
  | [] => rfl
  | p :: ps => by rw [List.map_cons, frzs_val, frzs_vals S ps]; rfl
@[simp] theorem doFrzs_nil (S : Store) : doFrzs [] S = .ok [] S := id rfl
theorem doFrzs_cons (w : W) (ws : List W) (S : Store) : doFrzs (w :: ws) S = (doFrz w S).bind fun p S1 => (doFrzs ws S1).bind fun ps S2 => .ok (p :: ps) S2 := by
  unfold doFrzs doFrz
  rw [frzs]
  cases frz S w with
  | none => rfl
  | some r =>
    simp only [Option.bind_some, rb_ok]
    cases frzs r.2 ws with
    | none => rfl
    | some q => rfl
@[simp] theorem valAll_nil : valAll [] = some [] := id rfl
@[simp] theorem valAll_val (p : P) (ws : List W) : valAll (.val p :: ws) = (valAll ws).map (p :: ·) := id rfl
@[simp] theorem valAll_map (f : α → P) : ∀ xs : List α, valAll (xs.map fun x => .val (f x)) = some (xs.map f)
  | [] => rfl
  | x :: xs => by rw [List.map_cons, valAll_val, valAll_map f xs]; rfl
@[simp] theorem valAll_ps (xs : List P) : valAll (xs.map .val) = some xs := by have := valAll_map id xs; simpa using this
@[simp] theorem valAll_append (xs ys : List W) : valAll (xs ++ ys) = (valAll xs).bind fun a => (valAll ys).map fun b => a ++ b := by
  induction xs with
  | nil => simp
  | cons w xs ih =>
    cases w with
    | loc n => rfl
    | val p =>
      rw [List.cons_append, valAll_val, valAll_val, ih]
      cases valAll xs <;> cases valAll ys <;> rfl
theorem doFrz_lst {S : Store} {n : Nat} {ws : List W} {ps : List P} (h : S[n]? = some (.lst ws)) (hv : valAll ws = some ps) : doFrz (.loc n) S = .ok (.lst ps) (S.set n (.frz (.lst ps))) := by
  simp [doFrz, frz, frz1, h, hv]
theorem doFrz_frz {S : Store} {n : Nat} {p : P} (h : S[n]? = some (.frz p)) : doFrz (.loc n) S = .ok p S := by
  simp [doFrz, frz, frz1, h]
/-! displays, calls -/
@[simp] theorem eTup_ap (fa : FE (List W)) (ρ : Env) (S : Store) : eTup fa ρ S = (fa ρ S).bind fun ws S1 => (doFrzs ws S1).bind fun ps S2 => if ps.length ≤ 100000 then .ok (.val (.tup ps)) S2 else .bad := id rfl
@[simp] theorem eLstP_ap (fa : FE (List W)) (ρ : Env) (S : Store) : eLstP fa ρ S = (fa ρ S).bind fun ws S1 => (doFrzs ws S1).bind fun ps S2 => if ps.length ≤ 100000 then .ok (.val (.lst ps)) S2 else .bad := id rfl
@[simp] theorem eLst_ap (fa : FE (List W)) (ρ : Env) (S : Store) : eLst fa ρ S = (fa ρ S).bind fun ws S1 => if ws.length ≤ 100000 then .ok (.loc S1.length) (S1 ++ [.lst ws]) else .bad := id rfl
@[simp] theorem eCB_ap (op : List W → Store → RE W) (fa : FE (List W)) (ρ : Env) (S : Store) : eCB op fa ρ S = (fa ρ S).bind op := id rfl
@[simp] theorem eCall_ap (n : Nat) (g : List P → Rp) (fa : FE (List W)) (ρ : Env) (S : Store) : eCall n g fa ρ S = (fa ρ S).bind fun ws S1 => (doFrzs ws S1).bind fun ps S2 => if ps.length = n then liftP (g ps) S2 else .bad := id rfl
@[simp] theorem liftP_ok (p : P) (S : Store) : liftP (.ok p) S = .ok (.val p) S := id rfl
@[simp] theorem liftP_ex (p : Xn) (S : Store) : liftP (.ex p) S = .ex p S := id rfl
@[simp] theorem liftP_ite (c : Prop) [Decidable c] (a b : Rp) (S : Store) : liftP (if c then a else b) S = if c then liftP a S else liftP b S := by split <;> rfl
def isObjC (c m : Str) (p : P) : Bool := match p with
  | .obj c' ns _ => decide (c' = c) && !ns.contains m
  | _ => false
@[simp] theorem isObjC_obj (c m c' : Str) (ns : List Str) (qs : List P) : isObjC c m (.obj c' ns qs) = (decide (c' = c) && !ns.contains m) := id rfl
@[simp] theorem eMeth_ap (c m : Str) (n : Nat) (g : List P → Rp) (fo : FE W) (fa : FE (List W)) (ρ : Env) (S : Store) : eMeth c m n g fo fa ρ S = (fo ρ S).bind fun w S1 => (doFrz w S1).bind fun p S2 =>
    if isObjC c m p = true then (fa ρ S2).bind fun ws S3 => (doFrzs ws S3).bind fun ps S4 => if ps.length + 1 = n then liftP (g (p :: ps)) S4 else .bad else .bad := by
  unfold eMeth
  congr 1
  funext w S1
  congr 1
  funext p S2
  cases p with
  | obj c' ns qs =>
    simp only [isObjC_obj, Bool.and_eq_true, decide_eq_true_eq, Bool.not_eq_true']
  | _ => rfl
@[simp] theorem orBad_some (a : α) (S : Store) : orBad (some a) S = .ok a S := id rfl
@[simp] theorem orBad_none (S : Store) : orBad (none : Option α) S = .bad := id rfl
/-! sequences -/
@[simp] theorem seqW_lst (S : Store) (ps : List P) : seqW S (.val (.lst ps)) = some (ps.map .val) := id rfl
@[simp] theorem seqW_scr (S : Store) (ns : List Int) : seqW S (.val (.scr ns)) = some (ns.map fun n => .val (.int n)) := id rfl
theorem seqW_loc {S : Store} {n : Nat} {ws : List W} (h : S[n]? = some (.lst ws)) : seqW S (.loc n) = some ws := by simp [seqW, h]
@[simp] theorem lenW_lst (S : Store) (ps : List P) : lenW [.val (.lst ps)] S = .ok (.val (.int ps.length)) S := by simp [lenW, lenOf]
@[simp] theorem lenW_tup (S : Store) (ps : List P) : lenW [.val (.tup ps)] S = .ok (.val (.int ps.length)) S := by simp [lenW, lenOf]
@[simp] theorem lenW_scr (S : Store) (ps : List Int) : lenW [.val (.scr ps)] S = .ok (.val (.int ps.length)) S := by simp [lenW, lenOf]
@[simp] theorem lenW_loc (S : Store) (n : Nat) : lenW [.loc n] S = orBad ((seqW S (.loc n)).map fun ws => W.val (.int (ws.length : Int))) S := by
  cases h : seqW S (.loc n) <;> simp [lenW, lenOf, h]
@[simp] theorem absW_int (S : Store) (i : Int) : absW [.val (.int i)] S = .ok (.val (.int (if i < 0 then -i else i))) S := id rfl
@[simp] theorem intW_int (S : Store) (i : Int) : intW [.val (.int i)] S = .ok (.val (.int i)) S := id rfl
@[simp] theorem intW_bl (S : Store) (i : Bool) : intW [.val (.bl i)] S = .ok (.val (.int (if i = true then 1 else 0))) S := id rfl
@[simp] theorem max2W_int (S : Store) (i j : Int) : max2W [.val (.int i), .val (.int j)] S = .ok (.val (.int (if j > i then j else i))) S := id rfl
@[simp] theorem min2W_int (S : Store) (i j : Int) : min2W [.val (.int i), .val (.int j)] S = .ok (.val (.int (if j < i then j else i))) S := id rfl
@[simp] theorem intsOf_map (f : α → Int) : ∀ xs : List α, intsOf (xs.map fun x => .int (f x)) = some (xs.map f)
  | [] => rfl
  | x :: xs => by simp [intsOf, intsOf_map f xs]
@[simp] theorem intsOf_ints (xs : List Int) : intsOf (xs.map .int) = some xs := by have := intsOf_map id xs; simpa using this
@[simp] theorem boolsOf_map (f : α → Bool) : ∀ xs : List α, boolsOf (xs.map fun x => .bl (f x)) = some (xs.map f)
  | [] => rfl
  | x :: xs => by simp [boolsOf, boolsOf_map f xs]
@[simp] theorem intsOf_nil : intsOf [] = some [] := id rfl
@[simp] theorem intsOf_cons (i : Int) (ps : List P) : intsOf (.int i :: ps) = (intsOf ps).map (i :: ·) := id rfl
@[simp] theorem boolsOf_nil : boolsOf [] = some [] := id rfl
@[simp] theorem boolsOf_cons (i : Bool) (ps : List P) : boolsOf (.bl i :: ps) = (boolsOf ps).map (i :: ·) := id rfl
@[simp] theorem rngP_len (lo : Int) (n : Nat) : (rngP lo n).length = n := by simp [rngP]
theorem rngP_eq (n : Nat) : rngP 0 n = (List.range n).map fun (k : Nat) => P.int (0 + (k : Int)) := id rfl
@[simp] theorem sumW_lst (ps : List P) (S : Store) : sumW [.val (.lst ps)] S = orBad ((intsOf ps).map fun ns => .val (.int ns.sum)) S := id rfl
@[simp] theorem allW_lst (ev : Bool) (ps : List P) (S : Store) : allW ev [.val (.lst ps)] S = orBad ((boolsOf ps).map fun bs => .val (.bl (if ev = true then bs.all id else bs.any id))) S := id rfl
theorem atI_in {xs : List α} {i : Int} (h0 : 0 ≤ i) (h1 : i < xs.length) : atI xs i = xs[i.toNat]? := by
  obtain ⟨j, rfl⟩ := Int.eq_ofNat_of_zero_le h0
  have h : j < xs.length := by omega
  rw [List.getElem?_eq_getElem h |> atI_nat]
  simp [h]
@[simp] theorem atI_map (f : α → β) (xs : List α) (i : Int) : atI (xs.map f) i = (atI xs i).map f := by
  unfold atI
  rw [List.length_map]
  cases ixN xs.length i <;> simp
@[simp] theorem ixW_tup (ps : List P) (i : Int) (S : Store) : ixW (.val (.tup ps)) (.val (.int i)) S = orBad ((atI ps i).map .val) S := id rfl
@[simp] theorem ixW_lst (ps : List P) (i : Int) (S : Store) : ixW (.val (.lst ps)) (.val (.int i)) S = orBad ((atI ps i).map .val) S := by simp [ixW]
@[simp] theorem ixW_scr (ps : List Int) (i : Int) (S : Store) : ixW (.val (.scr ps)) (.val (.int i)) S = orBad ((atI ps i).map fun n => .val (.int n)) S := by simp [ixW]
theorem ixW_loc (n : Nat) (i : Int) (S : Store) : ixW (.loc n) (.val (.int i)) S = match seqW S (.loc n) with
  | some ws => orBad (atI ws i) S
  | none => .bad := rfl
theorem atI_nn (xs : List α) (n : Nat) : atI xs (n : Int) = xs[n]? := by
  by_cases h : n < xs.length
  · rw [atI_in (by omega) (by omega)]; simp
  · have : ¬ (n : Int) < xs.length := by omega
    simp [atI, ixN, this]
    omega
@[simp] theorem atI_cons_lit (x : α) (xs : List α) (n : Nat) : atI (x :: xs) (no_index (OfNat.ofNat n)) = (x :: xs)[n]? := atI_nn _ n
@[simp] theorem atI_last1 (x : α) : atI [x] (-1) = some x := id rfl
@[simp] theorem atI_snoc (xs : List α) (x : α) : atI (xs ++ [x]) (-1) = some x := atI_last _ _
/-- the item of a list of numbers, 0 outside -/
def gi (xs : List Int) (i : Int) : Int := xs.getD i.toNat 0
theorem atI_gi {xs : List Int} {i : Int} (h0 : 0 ≤ i) (h1 : i < xs.length) : atI xs i = some (gi xs i) := by
  rw [atI_in h0 h1]
  have : i.toNat < xs.length := by omega
  simp [gi, List.getD, this]
theorem gi_mem {xs : List Int} {i : Int} (h0 : 0 ≤ i) (h1 : i < xs.length) : gi xs i ∈ xs := by
  have : i.toNat < xs.length := by omega
  simp [gi, List.getD, this]
/-! loops -/
@[simp] theorem iSeq_ap (f : FE W) (ρ : Env) (S : Store) : iSeq f ρ S = (f ρ S).bind itemsW := id rfl
@[simp] theorem itemsW_lst (ps : List P) (S : Store) : itemsW (.val (.lst ps)) S = .ok ps S := id rfl
@[simp] theorem itemsW_tup (ps : List P) (S : Store) : itemsW (.val (.tup ps)) S = .ok ps S := id rfl
@[simp] theorem itemsW_scr (ps : List Int) (S : Store) : itemsW (.val (.scr ps)) S = .ok (ps.map .int) S := id rfl
def rngR1 (ws : List W) (S1 : Store) : RE (List P) := match ws with
  | [.val (.int j)] => if rngOk 0 j = true then .ok (rngP 0 j.toNat) S1 else .bad
  | _ => .bad
@[simp] theorem iRange1_ap (fa : FE (List W)) (ρ : Env) (S : Store) : iRange1 fa ρ S = (fa ρ S).bind rngR1 := id rfl
@[simp] theorem rngR1_int (j : Int) (S : Store) : rngR1 [.val (.int j)] S = if rngOk 0 j = true then .ok (rngP 0 j.toNat) S else .bad := id rfl
def rngR2 (ws : List W) (S1 : Store) : RE (List P) := match ws with
  | [.val (.int i), .val (.int j)] => if rngOk i j = true then .ok (rngP i (j - i).toNat) S1 else .bad
  | _ => .bad
@[simp] theorem iRange2_ap (fa : FE (List W)) (ρ : Env) (S : Store) : iRange2 fa ρ S = (fa ρ S).bind rngR2 := id rfl
@[simp] theorem rngR2_int (i j : Int) (S : Store) : rngR2 [.val (.int i), .val (.int j)] S = if rngOk i j = true then .ok (rngP i (j - i).toNat) S else .bad := id rfl
theorem rngOk_of {i j : Int} (h1 : -4611686018427387904 ≤ i) (h2 : i < 4611686018427387904) (h3 : -4611686018427387904 ≤ j) (h4 : j < 4611686018427387904) : rngOk i j = true := by
  unfold rngOk
  simp only [Bool.and_eq_true, decide_eq_true_eq]
  exact ⟨⟨⟨h1, h2⟩, h3⟩, h4⟩
def zipR (ps : List P) (S2 : Store) : RE (List P) := match ps with
  | [.lst xs, .lst ys] => .ok ((xs.zip ys).map fun q => .tup [q.1, q.2]) S2
  | _ => .bad
@[simp] theorem iZip_ap (fa : FE (List W)) (ρ : Env) (S : Store) : iZip fa ρ S = (fa ρ S).bind fun ws S1 => (doFrzs ws S1).bind zipR := id rfl
@[simp] theorem zipR_lst (xs ys : List P) (S : Store) : zipR [.lst xs, .lst ys] S = .ok ((xs.zip ys).map fun q => .tup [q.1, q.2]) S := id rfl
def enumR (ps : List P) (S2 : Store) : RE (List P) := match ps with
  | [.lst xs] => .ok (((List.range xs.length).zip xs).map fun q => .tup [.int (q.1 : Int), q.2]) S2
  | _ => .bad
@[simp] theorem iEnum_ap (fa : FE (List W)) (ρ : Env) (S : Store) : iEnum fa ρ S = (fa ρ S).bind fun ws S1 => (doFrzs ws S1).bind enumR := id rfl
@[simp] theorem enumR_lst (xs : List P) (S : Store) : enumR [.lst xs] S = .ok (((List.range xs.length).zip xs).map fun q => .tup [.int (q.1 : Int), q.2]) S := id rfl
@[simp] theorem forGo_nil (t : Tg) (body : FS) (ρ : Env) (S : Store) : forGo t body [] ρ S = .nx ρ S := id rfl
/-- one round -/
def R.round (r : R) (k : Env → Store → R) : R := match r with
  | .nx ρ S => k ρ S
  | .ct ρ S => k ρ S
  | .bk ρ S => .nx ρ S
  | r => r
@[simp] theorem rd_nx (ρ : Env) (S : Store) (g : FS) : (R.nx ρ S).round g = g ρ S := id rfl
@[simp] theorem rd_rt (w : W) (S : Store) (g : FS) : (R.rt w S).round g = .rt w S := id rfl
@[simp] theorem rd_bk (ρ : Env) (S : Store) (g : FS) : (R.bk ρ S).round g = .nx ρ S := id rfl
@[simp] theorem rd_ct (ρ : Env) (S : Store) (g : FS) : (R.ct ρ S).round g = g ρ S := id rfl
@[simp] theorem rd_ex (x : Xn) (ρ : Env) (S : Store) (g : FS) : (R.ex x ρ S).round g = .ex x ρ S := id rfl
@[simp] theorem rd_bad (g : FS) : R.bad.round g = .bad := id rfl
@[simp] theorem rd_ite (c : Prop) [Decidable c] (a b : R) (g : FS) : (if c then a else b).round g = if c then a.round g else b.round g := by split <;> rfl
theorem forGo_cons (t : Tg) (body : FS) (p : P) (ps : List P) (ρ : Env) (S : Store) : forGo t body (p :: ps) ρ S = ((bindR (bindT t p ρ) S).seq body).round (forGo t body ps) := by
  rw [forGo]
  cases h : bindT t p ρ with
  | none => rfl
  | some ρ1 => simp only [bindR_some, rs_nx]; cases h2 : body ρ1 S <;> rfl
/-- a loop that goes on to its end, with an invariant over what is left -/
theorem forGo_inv (E : σ → Env) (T : σ → Store) (enc : α → P) (I : List α → σ → Prop) {t : Tg} {body : FS} (step : ∀ a r s, I (a :: r) s → ∃ s', (bindR (bindT t (enc a) (E s)) (T s)).seq body = .nx (E s') (T s') ∧ I r s') :
    ∀ xs s, I xs s → ∃ s', forGo t body (xs.map enc) (E s) (T s) = .nx (E s') (T s') ∧ I [] s'
  | [], s, h => ⟨s, rfl, h⟩
  | a :: r, s, h => by
    obtain ⟨s1, e1, h1⟩ := step a r s h
    obtain ⟨s2, e2, h2⟩ := forGo_inv E T enc I step r s1 h1
    exact ⟨s2, by rw [List.map_cons, forGo_cons, e1, rd_nx, e2], h2⟩
/-- a loop over a range -/
theorem forGo_rng (E : σ → Env) (T : σ → Store) (J : Nat → σ → Prop) {t : Tg} {body : FS} {lo : Int} {n : Nat} (step : ∀ k s, k < n → J k s → ∃ s', (bindR (bindT t (.int (lo + (k : Int))) (E s)) (T s)).seq body = .nx (E s') (T s') ∧ J (k + 1) s') {s : σ} (h : J 0 s) :
    ∃ s', forGo t body (rngP lo n) (E s) (T s) = .nx (E s') (T s') ∧ J n s' := by
  have key : ∀ (m k : Nat), k + m = n → ∀ s, J k s → ∃ s', forGo t body ((List.range' k m).map fun (k : Nat) => P.int (lo + (k : Int))) (E s) (T s) = .nx (E s') (T s') ∧ J n s' := by
    intro m
    induction m with
    | zero => intro k hk s h; simp at hk; subst hk; exact ⟨s, rfl, h⟩
    | succ m ih =>
      intro k hk s h
      obtain ⟨s1, e1, h1⟩ := step k s (by omega) h
      obtain ⟨s2, e2, h2⟩ := ih (k + 1) (by omega) s1 h1
      refine ⟨s2, ?_, h2⟩
      rw [List.range'_succ, List.map_cons, forGo_cons, e1, rd_nx]
      exact e2
  unfold rngP
  rw [List.range_eq_range']
  exact key n 0 (by omega) s h
/-- a plain fold -/
theorem forGo_fold (E : σ → Env) (T : σ → Store) (enc : α → P) (f : σ → α → σ) {t : Tg} {body : FS} {xs : List α} (step : ∀ a s, a ∈ xs → (bindR (bindT t (enc a) (E s)) (T s)).seq body = .nx (E (f s a)) (T (f s a))) (s : σ) :
    forGo t body (xs.map enc) (E s) (T s) = .nx (E (xs.foldl f s)) (T (xs.foldl f s)) := by
  induction xs generalizing s with
  | nil => rfl
  | cons a r ih =>
    rw [List.map_cons, forGo_cons, step a s List.mem_cons_self, rd_nx, List.foldl_cons]
    exact ih (fun a s h => step a s (List.mem_cons_of_mem _ h)) _
/-! comprehensions -/
@[simp] theorem eLc_ap (fi : FI) (vs : List Nat) (t : Tg) (c : FE Bool) (e : FE W) (ρ : Env) (S : Store) : eLc fi vs t c e ρ S = (fi ρ S).bind fun ps S1 => if ps.length ≤ 100000 then (lcGo vs t c e ρ ps S1).bind fun qs S2 => .ok (.val (.lst qs)) S2 else .bad := id rfl
@[simp] theorem lcGo_nil (vs : List Nat) (t : Tg) (c : FE Bool) (e : FE W) (ρ : Env) (S : Store) : lcGo vs t c e ρ [] S = .ok [] S := id rfl
theorem lcGo_map {vs : List Nat} {t : Tg} {e : FE W} {ρ : Env} {S : Store} (enc : α → P) (g : α → P) {xs : List α} (h : ∀ a ∈ xs, ∃ ρ1, bindT t (enc a) (wipeE ρ vs) = some ρ1 ∧ e ρ1 S = .ok (.val (g a)) S) :
    lcGo vs t cYes e ρ (xs.map enc) S = .ok (xs.map g) S := by
  induction xs with
  | nil => rfl
  | cons a r ih =>
    obtain ⟨ρ1, h1, h2⟩ := h a List.mem_cons_self
    rw [List.map_cons, lcGo, h1]
    simp only [cYes_ap, noEx, rb_ok, if_true, h2, doFrz_val, ih fun a h' => h a (List.mem_cons_of_mem _ h')]
    rfl
theorem lcGo_rng {vs : List Nat} {t : Tg} {e : FE W} {ρ : Env} {S : Store} {n : Nat} (g : Nat → P) (h : ∀ k : Nat, k < n → ∃ ρ1, bindT t (.int (0 + (k : Int))) (wipeE ρ vs) = some ρ1 ∧ e ρ1 S = .ok (.val (g k)) S) :
    lcGo vs t cYes e ρ (rngP 0 n) S = .ok ((List.range n).map g) S := lcGo_map _ g fun k hk => h k (List.mem_range.mp hk)
theorem lc_id (f : α → P) {i : Nat} {ρ : Env} {S : Store} {xs : List α} (h : i < ρ.length) : lcGo [i] (.nm i) cYes (eVar i) ρ (xs.map f) S = .ok (xs.map f) S := by
  refine lcGo_map f f fun a _ => ⟨_, bindT_nm _ _ _, ?_⟩
  show eVar i ((List.set ρ i none).set i (some (.val (f a)))) S = _
  simp [eVar, h]
theorem lcGo_filter {vs : List Nat} {t : Tg} {c : FE Bool} {e : FE W} {ρ : Env} {S : Store} (enc : α → P) (b : α → Bool) (g : α → P) {xs : List α} (h : ∀ a ∈ xs, ∃ ρ1, bindT t (enc a) (wipeE ρ vs) = some ρ1 ∧ c ρ1 S = .ok (b a) S ∧ (b a = true → e ρ1 S = .ok (.val (g a)) S)) :
    lcGo vs t c e ρ (xs.map enc) S = .ok ((xs.filter b).map g) S := by
  induction xs with
  | nil => rfl
  | cons a r ih =>
    obtain ⟨ρ1, h1, h2, h3⟩ := h a List.mem_cons_self
    have ih := ih fun a h' => h a (List.mem_cons_of_mem _ h')
    rw [List.map_cons, lcGo, h1]
    simp only [h2, noEx, rb_ok]
    cases hb : b a with
    | false => simp only [Bool.false_eq_true, if_false, ih, List.filter_cons, hb]
    | true => simp only [if_true, h3 hb, noEx, rb_ok, doFrz_val, ih, List.filter_cons, hb, List.map_cons]
@[simp] theorem wipe_nil (ρ : Env) : wipeE ρ [] = ρ := id rfl
@[simp] theorem wipe_cons (ρ : Env) (v : Nat) (vs : List Nat) : wipeE ρ (v :: vs) = (wipeE ρ vs).set v none := id rfl
/-! a def's end -/
def R.fin (r : R) : Rp := match r with
  | .rt w S => match frz S w with
    | some (p, _) => .ok p
    | none => .bad
  | .nx _ _ => .ok .non
  | .ex x _ _ => .ex x
  | _ => .bad
theorem runP_ap (m : Nat) (body : FS) (ds : List P) : runP m body ds = (body (envOf ds m) []).fin := id rfl
@[simp] theorem fin_val (p : P) (S : Store) : (R.rt (.val p) S).fin = .ok p := id rfl
theorem fin_lst {S : Store} {n : Nat} {ws : List W} {ps : List P} (h : S[n]? = some (.lst ws)) (hv : valAll ws = some ps) : (R.rt (.loc n) S).fin = .ok (.lst ps) := by
  simp [R.fin, frz, frz1, h, hv]
theorem fin_frz {S : Store} {n : Nat} {p : P} (h : S[n]? = some (.frz p)) : (R.rt (.loc n) S).fin = .ok p := by
  simp [R.fin, frz, frz1, h]
@[simp] theorem fin_nx (ρ : Env) (S : Store) : (R.nx ρ S).fin = .ok .non := id rfl
@[simp] theorem fin_ex (x : Xn) (ρ : Env) (S : Store) : (R.ex x ρ S).fin = .ex x := id rfl
@[simp] theorem fin_bad : R.bad.fin = .bad := id rfl
@[simp] theorem fin_ite (c : Prop) [Decidable c] (a b : R) : (if c then a else b).fin = if c then a.fin else b.fin := by split <;> rfl
theorem envOf_ap (ds : List P) (m : Nat) : envOf ds m = (ds.map fun p => some (W.val p)) ++ List.replicate (m - ds.length) none := id rfl
/-! methods of lists -/
@[simp] theorem eBM_ap (T : String) (op : W → List W → Store → RE W) (fo : FE W) (fa : FE (List W)) (ρ : Env) (S : Store) : eBM T op fo fa ρ S = (fo ρ S).bind fun w S1 => if isTy T S1 w = true then (fa ρ S1).bind fun ws S2 => op w ws S2 else .bad := id rfl
@[simp] theorem eBM0_ap (T : String) (op : W → List W → Store → RE W) (fo : FE W) (ρ : Env) (S : Store) : eBM0 T op fo ρ S = (fo ρ S).bind fun w S1 => if isTy T S1 w = true then op w [] S1 else .bad := id rfl
@[simp] theorem isTy_loc (S : Store) (n : Nat) : isTy "list" S (.loc n) = (seqW S (.loc n)).isSome := by simp [isTy]
theorem appendW_loc {S : Store} {n : Nat} {xs : List W} {w : W} (h : S[n]? = some (.lst xs)) (hl : xs.length < 100000) : appendW (.loc n) [w] S = .ok (.val .non) (S.set n (.lst (xs ++ [w]))) := by
  simp [appendW, liveL, h, hl]
theorem insertW_loc {S : Store} {n : Nat} {xs : List W} {w : W} {i : Int} (h : S[n]? = some (.lst xs)) (hl : xs.length < 100000) (h0 : 0 ≤ i) (h1 : i < 4611686018427387904) : insertW (.loc n) [.val (.int i), w] S = .ok (.val .non) (S.set n (.lst (xs.take i.toNat ++ [w] ++ xs.drop i.toNat))) := by
  simp [insertW, liveL, h, hl, h0, h1]
/-! fields -/
@[simp] theorem eFld_ap (c f : Str) (fa : FE W) (ρ : Env) (S : Store) : eFld c f fa ρ S = (fa ρ S).bind fun w S1 => orBad (fldOf c f S1 w) S1 := id rfl
@[simp] theorem fldOf_obj (c f c' : Str) (S : Store) (ns : List Str) (ps : List P) : fldOf c f S (.val (.obj c' ns ps)) = if c' = c then (lookA f ns ps).map .val else none := id rfl
theorem fldOf_ins {S : Store} {n : Nat} {c f c' : Str} {ns : List Str} {ws : List W} (h : S[n]? = some (.ins c' ns ws)) : fldOf c f S (.loc n) = if c' = c then lookA f ns ws else none := by simp [fldOf, h]
/-! isinstance -/
@[simp] theorem isiW_val (T : String) (p : P) (S : Store) : isiW T (.val p) S = orBad ((tyN p).map fun t => .val (.bl (isi t T))) S := id rfl
@[simp] theorem tyN_non : tyN .non = some "NoneType" := id rfl
@[simp] theorem tyN_bl (b : Bool) : tyN (.bl b) = some "bool" := id rfl
@[simp] theorem tyN_int (b : Int) : tyN (.int b) = some "int" := id rfl
@[simp] theorem tyN_str (b : Str) : tyN (.str b) = some "str" := id rfl
@[simp] theorem tyN_tup (b : List P) : tyN (.tup b) = some "tuple" := id rfl
@[simp] theorem tyN_lst (b : List P) : tyN (.lst b) = some "list" := id rfl
/-! try -/
def R.tryR (M : Str → Str → Option Bool) (hs : List (Str × FS)) (r : R) : R := match r with
  | .ex x ρ' S' => tryGo M hs x ρ' S'
  | r => r
@[simp] theorem tryR_nx (M : Str → Str → Option Bool) (hs : List (Str × FS)) (ρ : Env) (S : Store) : (R.nx ρ S).tryR M hs = .nx ρ S := id rfl
@[simp] theorem tryR_rt (M : Str → Str → Option Bool) (hs : List (Str × FS)) (w : W) (S : Store) : (R.rt w S).tryR M hs = .rt w S := id rfl
@[simp] theorem tryR_ex (M : Str → Str → Option Bool) (hs : List (Str × FS)) (x : Xn) (ρ : Env) (S : Store) : (R.ex x ρ S).tryR M hs = tryGo M hs x ρ S := id rfl
@[simp] theorem tryR_bad (M : Str → Str → Option Bool) (hs : List (Str × FS)) : R.bad.tryR M hs = .bad := id rfl
@[simp] theorem tryR_ite (M : Str → Str → Option Bool) (hs : List (Str × FS)) (c : Prop) [Decidable c] (a b : R) : (if c then a else b).tryR M hs = if c then a.tryR M hs else b.tryR M hs := by split <;> rfl
def R.noEx (r : R) : R := match r with
  | .ex _ _ _ => .bad
  | r => r
@[simp] theorem nx_noEx (ρ : Env) (S : Store) : (R.nx ρ S).noEx = .nx ρ S := id rfl
@[simp] theorem rt_noEx (ρ : W) (S : Store) : (R.rt ρ S).noEx = .rt ρ S := id rfl
theorem tryGo_no (M : Str → Str → Option Bool) (c : Str) (f : FS) (hs : List (Str × FS)) (x : Xn) (ρ : Env) (S : Store) (h : M x.cls c = some false) : tryGo M ((c, f) :: hs) x ρ S = tryGo M hs x ρ S := by rw [tryGo, h]
theorem tryGo_yes (M : Str → Str → Option Bool) (c : Str) (f : FS) (hs : List (Str × FS)) (x : Xn) (ρ : Env) (S : Store) (h : M x.cls c = some true) : tryGo M ((c, f) :: hs) x ρ S = (f ρ S).noEx := by
  rw [tryGo, h]
  cases hf : f ρ S <;> simp [R.noEx, hf]
@[simp] theorem tryGo_nil (M : Str → Str → Option Bool) (x : Xn) (ρ : Env) (S : Store) : tryGo M [] x ρ S = .ex x ρ S := id rfl
@[simp] theorem sTry_ap (M : Str → Str → Option Bool) (body : FS) (hs : List (Str × FS)) (ρ : Env) (S : Store) : sTry M body hs ρ S = (body ρ S).tryR M hs := id rfl
@[simp] theorem get_z (c : α) (l : List α) : (c :: l)[0]? = some c := id rfl
@[simp] theorem get_s (c : α) (l : List α) (n : Nat) : (c :: l)[n + 1]? = l[n]? := id rfl
/-! cells -/
def itemsC (S : Store) (n : Nat) (o : Option Cell) : RE (List P) := match o with
  | some (.lst ws) => match valAll ws with
    | some ps => .ok ps (S.set n (.frz (.lst ps)))
    | none => .bad
  | some (.frz (.lst ps)) => .ok ps S
  | _ => .bad

def seqC : Option Cell → Option (List W)
  | some (.lst ws) => some ws
  | some (.frz (.lst ps)) => some (ps.map .val)
  | _ => none
@[simp] theorem seqW_locC (S : Store) (n : Nat) : seqW S (.loc n) = seqC S[n]? := by
  unfold seqW seqC
  rfl
@[simp] theorem seqC_lst (ws : List W) : seqC (some (.lst ws)) = some ws := id rfl
@[simp] theorem seqC_frz (ps : List P) : seqC (some (.frz (.lst ps))) = some (ps.map .val) := id rfl
def liveC (o : Option Cell) (k : List W → RE W) : RE W := match o with
  | some (.lst ws) => k ws
  | _ => .bad
@[simp] theorem liveC_lst (ws : List W) (k : List W → RE W) : liveC (some (.lst ws)) k = k ws := id rfl
@[simp] theorem appendW_ap (S : Store) (n : Nat) (w : W) : appendW (.loc n) [w] S = liveC S[n]? fun xs => if xs.length < 100000 then .ok (.val .non) (S.set n (.lst (xs ++ [w]))) else .bad := by
  unfold appendW liveL
  cases h : S[n]? with
  | none => simp [h, liveC]
  | some c => cases c <;> simp [h, liveC]
@[simp] theorem insertW_ap (S : Store) (n : Nat) (i : Int) (w : W) : insertW (.loc n) [.val (.int i), w] S = liveC S[n]? fun xs => if xs.length < 100000 ∧ 0 ≤ i ∧ i < 4611686018427387904 then .ok (.val .non) (S.set n (.lst (xs.take i.toNat ++ [w] ++ xs.drop i.toNat))) else .bad := by
  unfold insertW liveL
  cases h : S[n]? with
  | none => simp [h, liveC]
  | some c => cases c <;> simp [h, liveC]
def optR (o : Option α) (k : α → RE β) : RE β := match o with
  | some a => k a
  | none => .bad
@[simp] theorem optR_some (a : α) (k : α → RE β) : optR (some a) k = k a := id rfl
@[simp] theorem optR_none (k : α → RE β) : optR none k = .bad := id rfl
def frzC (S : Store) (n : Nat) (o : Option Cell) : RE P := match o with
  | some (.lst ws) => optR (valAll ws) fun ps => .ok (.lst ps) (S.set n (.frz (.lst ps)))
  | some (.frz p) => .ok p S
  | some (.ins c ns ws) => optR (frzs1 S ws) fun r => optR (r.2[n]?) fun _ => .ok (.obj c ns r.1) (r.2.set n (.frz (.obj c ns r.1)))
  | none => .bad
theorem frzs1_cells {S S' : Store} : ∀ {ws : List W} {ps : List P}, frzs1 S ws = some (ps, S') → ∀ (n : Nat) (c : Str) (ns : List Str) (us : List W), S[n]? = some (.ins c ns us) → S'[n]? = some (.ins c ns us)
  | [], ps, e, n, c, ns, us, h => by cases e; exact h
  | w :: ws, ps, e, n, c, ns, us, h => by
    unfold frzs1 at e
    simp only [Option.bind_eq_some_iff, Option.map_eq_some_iff] at e
    obtain ⟨⟨p, S1⟩, e1, ⟨qs, S2⟩, e2, e3⟩ := e
    cases e3
    have h1 : S1[n]? = some (.ins c ns us) := by
      unfold frz1 at e1
      split at e1
      · cases e1; exact h
      · rename_i m
        split at e1
        · rename_i ws' hm
          simp only [Option.map_eq_some_iff] at e1
          obtain ⟨ps', _, e1⟩ := e1
          cases e1
          rw [List.getElem?_set_ne]
          · exact h
          · rintro rfl
            rw [h] at hm; cases hm
        · cases e1; exact h
        · cases e1
    exact frzs1_cells e2 n c ns us h1
@[simp] theorem doFrz_loc (S : Store) (n : Nat) : doFrz (.loc n) S = frzC S n S[n]? := by
  unfold doFrz
  cases h : S[n]? with
  | none => simp [frz, frz1, h, frzC]
  | some c =>
    cases c with
    | lst ws => cases hv : valAll ws <;> simp [frz, frz1, h, frzC, hv]
    | frz p => simp [frz, frz1, h, frzC]
    | ins c ns ws =>
      cases hf : frzs1 S ws with
      | none => simp [frz, h, frzC, hf]
      | some r =>
        obtain ⟨ps, S'⟩ := r
        have h2 := frzs1_cells hf n c ns ws h
        simp [frz, h, frzC, hf, h2]
@[simp] theorem frzC_lst (S : Store) (n : Nat) (ws : List W) : frzC S n (some (.lst ws)) = optR (valAll ws) fun ps => .ok (.lst ps) (S.set n (.frz (.lst ps))) := id rfl
@[simp] theorem frzC_frz (S : Store) (n : Nat) (p : P) : frzC S n (some (.frz p)) = .ok p S := id rfl
@[simp] theorem frzC_ins (S : Store) (n : Nat) (c : Str) (ns : List Str) (ws : List W) : frzC S n (some (.ins c ns ws)) = optR (frzs1 S ws) fun r => optR (r.2[n]?) fun _ => .ok (.obj c ns r.1) (r.2.set n (.frz (.obj c ns r.1))) := id rfl
def addO (a b : Option P) (S : Store) : RE W := match a, b with
  | some (.int i), some (.int j) => .ok (.val (.int (i + j))) S
  | some (.str x), some (.str y) => if x.length + y.length ≤ 1000000 then .ok (.val (.str (x ++ y))) S else .bad
  | some (.tup ps), some (.tup qs) => if ps.length + qs.length ≤ 100000 then .ok (.val (.tup (ps ++ qs))) S else .bad
  | some (.lst ps), some (.lst qs) => if ps.length + qs.length ≤ 100000 then .ok (.val (.lst (ps ++ qs))) S else .bad
  | _, _ => .bad
@[simp] theorem addO_lst (i j : List P) (S : Store) : addO (some (.lst i)) (some (.lst j)) S = if i.length + j.length ≤ 100000 then .ok (.val (.lst (i ++ j))) S else .bad := id rfl
@[simp] theorem addW_loc_l (n : Nat) (b : W) (S : Store) : addW (.loc n) b S = addO (pOf S (.loc n)) (pOf S b) S := id rfl
@[simp] theorem addW_loc_r (n : Nat) (a : P) (S : Store) : addW (.val a) (.loc n) S = addO (some a) (pOf S (.loc n)) S := id rfl
@[simp] theorem eqW_loc_l (neg : Bool) (n : Nat) (b : W) (S : Store) : eqW neg (.loc n) b S = match pOf S (.loc n), pOf S b with
  | some p, some q => eqR neg (eqP p q) S
  | _, _ => .bad := id rfl
@[simp] theorem eqW_loc_r (neg : Bool) (n : Nat) (a : P) (S : Store) : eqW neg (.val a) (.loc n) S = match pOf S (.loc n) with
  | some q => eqR neg (eqP a q) S
  | _ => .bad := by
  unfold eqW
  cases h : pOf S (.loc n) with
  | none => rfl
  | some q => rfl
@[simp] theorem frzs1_nil (S : Store) : frzs1 S [] = some ([], S) := id rfl
@[simp] theorem frzs1_val (S : Store) (p : P) (ws : List W) : frzs1 S (.val p :: ws) = (frzs1 S ws).map fun q => (p :: q.1, q.2) := id rfl
def frz1C (S : Store) (n : Nat) (o : Option Cell) : Option (P × Store) := match o with
  | some (.lst ws) => (valAll ws).map fun ps => (.lst ps, S.set n (.frz (.lst ps)))
  | some (.frz p) => some (p, S)
  | _ => none
@[simp] theorem frz1C_lst (S : Store) (n : Nat) (ws : List W) : frz1C S n (some (.lst ws)) = (valAll ws).map fun ps => (.lst ps, S.set n (.frz (.lst ps))) := id rfl
@[simp] theorem frz1C_frz (S : Store) (n : Nat) (p : P) : frz1C S n (some (.frz p)) = some (p, S) := id rfl
@[simp] theorem frzs1_loc (S : Store) (n : Nat) (ws : List W) : frzs1 S (.loc n :: ws) = (frz1C S n S[n]?).bind fun r => (frzs1 r.2 ws).map fun q => (r.1 :: q.1, q.2) := id rfl
@[simp] theorem doFrzs_val (p : P) (ws : List W) (S : Store) : doFrzs (.val p :: ws) S = (doFrzs ws S).bind fun ps S2 => .ok (p :: ps) S2 := by rw [doFrzs_cons, doFrz_val, rb_ok]
@[simp] theorem doFrzs_loc (n : Nat) (ws : List W) (S : Store) : doFrzs (.loc n :: ws) S = (frzC S n S[n]?).bind fun p S1 => (doFrzs ws S1).bind fun ps S2 => .ok (p :: ps) S2 := by rw [doFrzs_cons, doFrz_loc]
def RE.finP (r : RE P) : Rp := match r with
  | .ok p _ => .ok p
  | _ => .bad
@[simp] theorem finP_ok (p : P) (S : Store) : (RE.ok p S).finP = .ok p := id rfl
theorem frz_doFrz (w : W) (S : Store) : (match frz S w with
    | some (p, _) => Rp.ok p
    | none => .bad) = (doFrz w S).finP := by
  unfold doFrz
  cases frz S w with
  | none => rfl
  | some r => rfl
@[simp] theorem fin_loc (n : Nat) (S : Store) : (R.rt (.loc n) S).fin = (frzC S n S[n]?).finP := by
  rw [← doFrz_loc]
  exact frz_doFrz _ _
def R.finI (r : R) : Rp := match r with
  | .nx _ S => (doFrz (.loc 0) S).finP
  | .rt (.val .non) S => (doFrz (.loc 0) S).finP
  | .ex x _ _ => .ex x
  | _ => .bad
theorem runI_ap (c : Str) (m : Nat) (body : FS) (ds : List P) : runI c m body ds = (body (some (.loc 0) :: envOf ds (m - 1)) [.ins c [] []]).finI := by
  unfold runI R.finI
  generalize body (some (.loc 0) :: envOf ds (m - 1)) [.ins c [] []] = r
  cases r with
  | nx ρ S => exact frz_doFrz _ _
  | rt w S =>
    cases w with
    | loc n => rfl
    | val p => cases p <;> first | rfl | exact frz_doFrz _ _
  | _ => rfl
@[simp] theorem finI_nx (ρ : Env) (S : Store) : (R.nx ρ S).finI = (frzC S 0 S[0]?).finP := by rw [← doFrz_loc]; rfl
@[simp] theorem finI_non (S : Store) : (R.rt (.val .non) S).finI = (frzC S 0 S[0]?).finP := by rw [← doFrz_loc]; rfl
@[simp] theorem finI_ex (x : Xn) (ρ : Env) (S : Store) : (R.ex x ρ S).finI = .ex x := id rfl
@[simp] theorem finI_ite (c : Prop) [Decidable c] (a b : R) : (if c then a else b).finI = if c then a.finI else b.finI := by split <;> rfl
def pOfC : Option Cell → Option P
  | some (.lst ws) => (valAll ws).map .lst
  | some (.frz p) => some p
  | _ => none
@[simp] theorem pOf_val (S : Store) (p : P) : pOf S (.val p) = some p := id rfl
@[simp] theorem pOf_loc (S : Store) (n : Nat) : pOf S (.loc n) = pOfC S[n]? := by unfold pOf pOfC; rfl
@[simp] theorem pOfC_lst (ws : List W) : pOfC (some (.lst ws)) = (valAll ws).map .lst := id rfl
@[simp] theorem pOfC_frz (p : P) : pOfC (some (.frz p)) = some p := id rfl
def fldC (c f : Str) : Option Cell → Option W
  | some (.ins c' ns ws) => if c' = c then lookA f ns ws else none
  | some (.frz (.obj c' ns ps)) => if c' = c then (lookA f ns ps).map .val else none
  | _ => none
@[simp] theorem fldOf_loc (c f : Str) (S : Store) (n : Nat) : fldOf c f S (.loc n) = fldC c f S[n]? := by unfold fldOf fldC; rfl
@[simp] theorem fldC_ins (c f c' : Str) (ns : List Str) (ws : List W) : fldC c f (some (.ins c' ns ws)) = if c' = c then lookA f ns ws else none := id rfl
@[simp] theorem fldC_frz (c f c' : Str) (ns : List Str) (ws : List P) : fldC c f (some (.frz (.obj c' ns ws))) = if c' = c then (lookA f ns ws).map .val else none := id rfl
@[simp] theorem lookA_cons (f g : Str) (x : α) (ns : List Str) (xs : List α) : lookA f (g :: ns) (x :: xs) = if f = g then some x else lookA f ns xs := by
  unfold lookA
  rw [List.zip_cons_cons, List.lookup_cons]
  by_cases h : f = g
  · simp [h]
  · have : (f == g) = false := by simpa using h
    simp [h, this]
@[simp] theorem putN_nil (f : Str) : putN f [] = [f] := id rfl
@[simp] theorem putN_cons (f g : Str) (r : List Str) : putN f (g :: r) = if g = f then g :: r else g :: putN f r := id rfl
@[simp] theorem putA_nil (f : Str) (x : α) (xs : List α) : putA f x [] xs = [x] := id rfl
@[simp] theorem putA_cons (f g : Str) (x y : α) (r : List Str) (ys : List α) : putA f x (g :: r) (y :: ys) = if g = f then x :: ys else y :: putA f x r ys := id rfl
def insC (c : Str) (o : Option Cell) (k : List Str → List W → R) : R := match o with
  | some (.ins c' ns ws) => if c' = c ∧ ns.length < 1000 then k ns ws else .bad
  | _ => .bad
@[simp] theorem insC_ins (c c' : Str) (ns : List Str) (ws : List W) (k : List Str → List W → R) : insC c (some (.ins c' ns ws)) k = if c' = c ∧ ns.length < 1000 then k ns ws else .bad := id rfl
def locR (w : W) (k : Nat → R) : R := match w with
  | .loc n => k n
  | _ => .bad
@[simp] theorem locR_loc (n : Nat) (k : Nat → R) : locR (.loc n) k = k n := id rfl
@[simp] theorem sFldS_ap (c f : Str) (fo fv : FE W) (ρ : Env) (S : Store) : sFldS c f fo fv ρ S = (fv ρ S).toR ρ fun w S1 => (fo ρ S1).toR ρ fun o S2 => locR o fun n => insC c S2[n]? fun ns ws => .nx ρ (S2.set n (.ins c (putN f ns) (putA f w ns ws))) := by
  unfold sFldS
  congr 1
  funext w S1
  congr 1
  funext o S2
  cases o with
  | val p => rfl
  | loc n =>
    simp only [locR_loc]
    unfold insC
    cases S2[n]? with
    | none => rfl
    | some c' =>
      cases c' with
      | ins c'' ns ws =>
        simp only
        split
        · rename_i h; rw [h.1]
        · rfl
      | _ => rfl
@[simp] theorem itemsW_loc (S : Store) (n : Nat) : itemsW (.loc n) S = itemsC S n S[n]? := by
  unfold itemsW itemsC frz1
  cases h : S[n]? with
  | none => simp [h]
  | some c =>
    cases c with
    | lst ws => cases h2 : valAll ws <;> simp [h, h2]
    | frz p => cases p <;> simp [h]
    | ins _ _ _ => simp [h]
@[simp] theorem itemsC_lst (S : Store) (n : Nat) (ws : List W) : itemsC S n (some (.lst ws)) = optR (valAll ws) fun ps => .ok ps (S.set n (.frz (.lst ps))) := by
  cases h : valAll ws <;> simp [itemsC, h]
@[simp] theorem itemsC_frz (S : Store) (n : Nat) (ps : List P) : itemsC S n (some (.frz (.lst ps))) = .ok ps S := id rfl
/-- a loop over a range, the state told by a predicate -/
theorem forGo_rngJ (J : Nat → Env → Store → Prop) {t : Tg} {body : FS} {lo : Int} {n : Nat} (step : ∀ (k : Nat) ρ S, k < n → J k ρ S → ∃ ρ' S', (bindR (bindT t (.int (lo + (k : Int))) ρ) S).seq body = .nx ρ' S' ∧ J (k + 1) ρ' S') {ρ : Env} {S : Store} (h : J 0 ρ S) :
    ∃ ρ' S', forGo t body (rngP lo n) ρ S = .nx ρ' S' ∧ J n ρ' S' := by
  obtain ⟨⟨ρ', S'⟩, e, j⟩ := forGo_rng (σ := Env × Store) (fun s => s.1) (fun s => s.2) (fun k s => J k s.1 s.2) (t := t) (body := body) (lo := lo) (n := n) (fun k s hk hj => by
    obtain ⟨ρ', S', e, j⟩ := step k s.1 s.2 hk hj
    exact ⟨(ρ', S'), e, j⟩) (s := (ρ, S)) h
  exact ⟨ρ', S', e, j⟩
theorem forGo_lstJ (enc : α → P) (J : List α → Env → Store → Prop) {t : Tg} {body : FS} (step : ∀ a r ρ S, J (a :: r) ρ S → ∃ ρ' S', (bindR (bindT t (enc a) ρ) S).seq body = .nx ρ' S' ∧ J r ρ' S') {xs : List α} {ρ : Env} {S : Store} (h : J xs ρ S) :
    ∃ ρ' S', forGo t body (xs.map enc) ρ S = .nx ρ' S' ∧ J [] ρ' S' := by
  obtain ⟨⟨ρ', S'⟩, e, j⟩ := forGo_inv (σ := Env × Store) (fun s => s.1) (fun s => s.2) enc (fun r s => J r s.1 s.2) (t := t) (body := body) (fun a r s hj => by
    obtain ⟨ρ', S', e, j⟩ := step a r s.1 s.2 hj
    exact ⟨(ρ', S'), e, j⟩) xs (ρ, S) h
  exact ⟨ρ', S', e, j⟩
/-! what a statement's result must be -/
def R.goes (r : R) (J : Env → Store → Prop) : Prop := match r with
  | .nx ρ S => J ρ S
  | .ct ρ S => J ρ S
  | _ => False
@[simp] theorem goes_nx (ρ : Env) (S : Store) (J : Env → Store → Prop) : (R.nx ρ S).goes J = J ρ S := id rfl
@[simp] theorem goes_ct (ρ : Env) (S : Store) (J : Env → Store → Prop) : (R.ct ρ S).goes J = J ρ S := id rfl
@[simp] theorem goes_ite (c : Prop) [Decidable c] (a b : R) (J : Env → Store → Prop) : (if c then a else b).goes J = if c then a.goes J else b.goes J := by split <;> rfl
theorem goes_ex {r : R} {J : Env → Store → Prop} (h : r.goes J) : (∃ ρ S, r = .nx ρ S ∧ J ρ S) ∨ (∃ ρ S, r = .ct ρ S ∧ J ρ S) := by
  cases r with
  | nx ρ S => exact .inl ⟨ρ, S, rfl, h⟩
  | ct ρ S => exact .inr ⟨ρ, S, rfl, h⟩
  | _ => exact h.elim
theorem goes_seq {r : R} {g : FS} {J J' : Env → Store → Prop} (h : ∃ ρ S, r = .nx ρ S ∧ J ρ S) (hg : ∀ ρ S, J ρ S → (g ρ S).goes J') : (r.seq g).goes J' := by
  obtain ⟨ρ, S, rfl, j⟩ := h
  exact hg ρ S j
/-- a loop over a list -/
theorem for_lst (enc : α → P) (J : List α → Env → Store → Prop) {t : Tg} {body : FS} (step : ∀ a r ρ S, J (a :: r) ρ S → ((bindR (bindT t (enc a) ρ) S).seq body).goes (J r)) :
    ∀ {xs : List α} {ρ : Env} {S : Store}, J xs ρ S → ∃ ρ' S', forGo t body (xs.map enc) ρ S = .nx ρ' S' ∧ J [] ρ' S'
  | [], ρ, S, h => ⟨ρ, S, rfl, h⟩
  | a :: r, ρ, S, h => by
    rw [List.map_cons, forGo_cons]
    rcases goes_ex (step a r ρ S h) with ⟨ρ', S', e, j⟩ | ⟨ρ', S', e, j⟩
    · rw [e, rd_nx]
      exact for_lst enc J step j
    · rw [e, rd_ct]
      exact for_lst enc J step j
theorem for_rng (J : Nat → Env → Store → Prop) {t : Tg} {body : FS} {lo : Int} {n : Nat} (step : ∀ (k : Nat) ρ S, k < n → J k ρ S → ((bindR (bindT t (.int (lo + (k : Int))) ρ) S).seq body).goes (J (k + 1))) {ρ : Env} {S : Store} (h : J 0 ρ S) :
    ∃ ρ' S', forGo t body (rngP lo n) ρ S = .nx ρ' S' ∧ J n ρ' S' := by
  have := for_lst (fun (k : Nat) => P.int (lo + (k : Int))) (fun r ρ S => ∃ k, k + r.length = n ∧ r = List.range' k r.length ∧ J k ρ S) (t := t) (body := body) (by
    rintro a r ρ S ⟨k, hk, he, hj⟩
    simp only [List.length_cons, List.range'_succ, List.cons.injEq] at he hk
    obtain ⟨rfl, he⟩ := he
    have q := step a ρ S (by omega) hj
    generalize (bindR (bindT t (.int (lo + (a : Int))) ρ) S).seq body = z at q
    cases z with
    | nx ρ S => exact ⟨a + 1, by omega, he, q⟩
    | ct ρ S => exact ⟨a + 1, by omega, he, q⟩
    | _ => exact q.elim) (xs := List.range n) (ρ := ρ) (S := S) ⟨0, by simp, by simp [List.range_eq_range'], h⟩
  obtain ⟨ρ', S', e, k, hk, _, hj⟩ := this
  simp only [List.length_nil, Nat.add_zero] at hk
  subst hk
  exact ⟨ρ', S', e, hj⟩
theorem mulOk_c {i j : Int} (h : -18446744073709551616 < j ∧ j < 18446744073709551616) : mulOk i j = true := mulOk_r (by omega)
theorem mulOk_d {i j : Int} (h : -18446744073709551616 < i ∧ i < 18446744073709551616) : mulOk i j = true := mulOk_l (by omega)
end Z
end
-- part Z13
section
set_option Elab.async false
set_option linter.all false
set_option maxRecDepth 100000
set_option autoImplicit false
namespace Z
open PySem PySem.Spec PyProof.Rows L2
/-! ### equality of data -/
/-- plain data of at most n levels of lists -/
def shP : Nat → P → Bool
  | _, .non => true
  | _, .bl _ => true
  | _, .int _ => true
  | _, .str x => PyData.strOk x
  | n + 1, .tup ps => ps.all (shP n)
  | n + 1, .lst ps => ps.all (shP n)
  | _, _ => false
@[simp] theorem shP_non (n : Nat) : shP n .non = true := by cases n <;> simp [shP]
@[simp] theorem shP_bl (n : Nat) (b : Bool) : shP n (.bl b) = true := by cases n <;> simp [shP]
@[simp] theorem shP_int (n : Nat) (b : Int) : shP n (.int b) = true := by cases n <;> simp [shP]
@[simp] theorem shP_str (n : Nat) (b : Str) : shP n (.str b) = PyData.strOk b := by cases n <;> simp [shP]
@[simp] theorem shP_tup (n : Nat) (ps : List P) : shP (n + 1) (.tup ps) = ps.all (shP n) := by simp [shP]
@[simp] theorem shP_lst (n : Nat) (ps : List P) : shP (n + 1) (.lst ps) = ps.all (shP n) := by simp [shP]
theorem sh_py : ∀ (n : Nat) (p : P), shP n p = true → ∃ d, toPy p = some d ∧ d.canLay0 = true ∧ d.depth ≤ n + 1 ∧ d.eqv d = true
  | n, .non, h => ⟨.none, by simp [toPy], rfl, by unfold PyData.depth; omega, rfl⟩
  | n, .bl b, h => ⟨.bool b, by simp [toPy], rfl, by unfold PyData.depth; omega, by simp [PyData.eqv]⟩
  | n, .int b, h => ⟨.int b, by simp [toPy], rfl, by unfold PyData.depth; omega, by simp [PyData.eqv]⟩
  | n, .str x, h => ⟨.str x, by simp [toPy], by simpa [PyData.canLay0] using h, by unfold PyData.depth; omega, by simp [PyData.eqv]⟩
  | 0, .tup ps, h => by simp [shP] at h
  | 0, .lst ps, h => by simp [shP] at h
  | n, .scr ps, h => by cases n <;> simp [shP] at h
  | n, .dct _ _, h => by cases n <;> simp [shP] at h
  | n, .obj _ _ _, h => by cases n <;> simp [shP] at h
  | n + 1, .tup ps, h => by
    rw [shP_tup] at h
    have key : ∀ qs : List P, qs.all (shP n) = true → ∃ ds, toPyL qs = some ds ∧ PyData.canLayAll0 ds = true ∧ PyData.depthAll ds ≤ n + 1 ∧ PyData.eqvAll ds ds = true := by
      intro qs
      induction qs with
      | nil => intro _; exact ⟨[], by simp [toPyL], rfl, by simp [PyData.depthAll], rfl⟩
      | cons q qs ih =>
        intro h
        rw [List.all_cons, Bool.and_eq_true] at h
        obtain ⟨d, a1, a2, a3, a4⟩ := sh_py n q h.1
        obtain ⟨ds, b1, b2, b3, b4⟩ := ih h.2
        exact ⟨d :: ds, by simp [toPyL, a1, b1], by simp [PyData.canLayAll0, a2, b2], by unfold PyData.depthAll; omega, by simp [PyData.eqvAll, a4, b4]⟩
    obtain ⟨ds, b1, b2, b3, b4⟩ := key ps h
    exact ⟨.tuple ds, by simp [toPy, b1], by simpa [PyData.canLay0] using b2, by unfold PyData.depth; omega, by simpa [PyData.eqv] using b4⟩
  | n + 1, .lst ps, h => by
    rw [shP_lst] at h
    have key : ∀ qs : List P, qs.all (shP n) = true → ∃ ds, toPyL qs = some ds ∧ PyData.canLayAll0 ds = true ∧ PyData.depthAll ds ≤ n + 1 ∧ PyData.eqvAll ds ds = true := by
      intro qs
      induction qs with
      | nil => intro _; exact ⟨[], by simp [toPyL], rfl, by simp [PyData.depthAll], rfl⟩
      | cons q qs ih =>
        intro h
        rw [List.all_cons, Bool.and_eq_true] at h
        obtain ⟨d, a1, a2, a3, a4⟩ := sh_py n q h.1
        obtain ⟨ds, b1, b2, b3, b4⟩ := ih h.2
        exact ⟨d :: ds, by simp [toPyL, a1, b1], by simp [PyData.canLayAll0, a2, b2], by unfold PyData.depthAll; omega, by simp [PyData.eqvAll, a4, b4]⟩
    obtain ⟨ds, b1, b2, b3, b4⟩ := key ps h
    exact ⟨.list ds, by simp [toPy, b1], by simpa [PyData.canLay0] using b2, by unfold PyData.depth; omega, by simpa [PyData.eqv] using b4⟩
theorem shaped_of {d : PyData} {n : Nat} (h1 : d.canLay0 = true) (h2 : d.depth ≤ n + 1) (hn : n ≤ 60) : SeqAt.shaped d = true := by
  unfold SeqAt.shaped
  rw [h1, Bool.true_and, decide_eq_true_eq]
  omega
theorem eqP_refl {p : P} (n : Nat) (h : shP n p = true) (hn : n ≤ 60 := by decide) : eqP p p = some true := by
  obtain ⟨d, h1, h2, h3, h4⟩ := sh_py n p h
  have hs := shaped_of h2 h3 hn
  unfold eqP
  cases p <;> simp [h1, hs, h4]
/-- two data of one kind: equal in Python iff equal -/
def pyEq (n : Nat) (p q : P) (k : Bool) : Prop := ∃ d e, toPy p = some d ∧ toPy q = some e ∧ d.canLay0 = true ∧ e.canLay0 = true ∧ d.depth ≤ n + 1 ∧ e.depth ≤ n + 1 ∧ d.eqv e = k
theorem eqP_of {p q : P} {n : Nat} {k : Bool} (h : pyEq n p q k) (hn : n ≤ 60 := by decide) : (∃ ps, p = .lst ps ∨ p = .tup ps) → eqP p q = some k := by
  obtain ⟨d, e, h1, h2, h3, h4, h5, h6, h7⟩ := h
  have s1 := shaped_of h3 h5 hn
  have s2 := shaped_of h4 h6 hn
  rintro ⟨ps, rfl | rfl⟩ <;> cases q <;> simp [eqP, h1, h2, s1, s2, h7]
/-! ### in -/
@[simp] theorem flatP_non : flatP .non = true := id rfl
@[simp] theorem flatP_bl (b : Bool) : flatP (.bl b) = true := id rfl
@[simp] theorem flatP_int (b : Int) : flatP (.int b) = true := id rfl
@[simp] theorem flatP_str (b : Str) : flatP (.str b) = true := id rfl
@[simp] theorem eqF_str (a b : Str) : eqF (.str a) (.str b) = (a == b) := id rfl
@[simp] theorem eqF_int (a b : Int) : eqF (.int a) (.int b) = (a == b) := id rfl
@[simp] theorem inP_lst (p : P) (ps : List P) : inP p (.lst ps) = if flatP p && ps.all flatP then some (ps.any fun q => eqF q p) else none := by cases p <;> rfl
@[simp] theorem inP_tup (p : P) (ps : List P) : inP p (.tup ps) = if flatP p && ps.all flatP then some (ps.any fun q => eqF q p) else none := by cases p <;> rfl
def inR (neg : Bool) (o : Option Bool) (S : Store) : RE W := match o with
  | some k => .ok (.val (.bl (if neg = true then !k else k))) S
  | none => .bad
@[simp] theorem inR_some (neg k : Bool) (S : Store) : inR neg (some k) S = .ok (.val (.bl (if neg = true then !k else k))) S := id rfl
@[simp] theorem inW_vv (neg : Bool) (p q : P) (S : Store) : inW neg (.val p) (.val q) S = inR neg (inP p q) S := by
  unfold inW inR
  rfl
@[simp] theorem tupleW_lst (ps : List P) (S : Store) : tupleW [.val (.lst ps)] S = .ok (.val (.tup ps)) S := by
  simp [tupleW, doFrzs, frzs_vals]
@[simp] theorem tupleW_tup (ps : List P) (S : Store) : tupleW [.val (.tup ps)] S = .ok (.val (.tup ps)) S := id rfl
end Z
end
-- part G07M
section
set_option Elab.async false
set_option linter.all false
set_option maxRecDepth 100000
set_option maxHeartbeats 0
set_option autoImplicit false
namespace Gk07
open PySem PySem.Spec PyProof.Rows L2 Z
def exmL : List ((Str × Str) × Bool) := [(("NotFitting", "BadNumber"), false), (("NotFitting", "NotFitting"), true), (("InvalidLayout", "BadNumber"), false), (("InvalidLayout", "NotFitting"), false), (("InvalidTrain", "BadNumber"), false), (("InvalidTrain", "NotFitting"), false), (("BadNumber", "BadNumber"), true), (("BadNumber", "NotFitting"), false), (("CoasterError", "BadNumber"), false), (("CoasterError", "NotFitting"), false)]
def exmT (r c : Str) : Option Bool := exmL.lookup (r, c)
/-! _law_drawn_train -/
def m_l_drawn_train : List P → Rp := runP 3 (sSeq (sAsg 1 (eBin modW (eBin ixW (eVar 0) (eCst (.int 0))) (eCst (.int 400))))
  (sSeq (sAsg 2 (eBin addW (eCst (.int 5000)) (eBin mulW (eCst (.int 73)) (eBin ixW (eVar 0) (eCst (.int 1))))))
  (sRet (eLstP (aCons (eBin addW (eCst (.int 1)) (eBin modW (eBin ixW (eVar 0) (eCst (.int 2))) (eCst (.int 4)))) (aCons (eTup (aCons (eVar 1) (aCons (eBin addW (eVar 1) (eBin modW (eBin ixW (eVar 0) (eCst (.int 3))) (eCst (.int 900)))) aNil))) (aCons (eTup (aCons (eVar 2) (aCons (eBin addW (eVar 2) (eBin mulW (eCst (.int 10)) (eBin ixW (eVar 0) (eCst (.int 4))))) aNil))) (aCons (eBin addW (eCst (.int 1)) (eBin mulW (eCst (.int 30)) (eBin ixW (eVar 0) (eCst (.int 5))))) (aCons (eBin addW (eCst (.int 1)) (eBin mulW (eCst (.int 20)) (eBin ixW (eVar 0) (eCst (.int 6))))) aNil)))))))))
/-! _law_draws -/
def m_l_draws_b1 : FS := (sIf (tAndB (tstB (eBin geW (eVar 0) (eBin powW (eCst (.int 10)) (eCst (.int 18))))) (tstB (eBin gtW (eVar 3) (eCst (.int 0))))) (sSeq (sExpr (eBM "list" appendW (eVar 2) (aCons (eBin modW (eCB intW (aCons (eVar 3) aNil)) (eCst (.int 4096))) aNil)))
  (sAsg 3 (eBin fdivW (eVar 3) (eCst (.int 4096))))) (sSeq (sAsg 5 (eBin modW (eCB intW (aCons (eBin addW (eBin mulW (eVar 0) (eCst (.int 48271))) (eBin mulW (eBin addW (eVar 4) (eCst (.int 1))) (eCst (.int 69621)))) aNil)) (eCst (.int 2147483647))))
  (sSeq (sAsg 5 (eBin modW (eCB intW (aCons (eBin addW (eBin addW (eBin mulW (eVar 5) (eVar 5)) (eBin mulW (eVar 5) (eCst (.int 16807)))) (eBin mulW (eVar 4) (eCst (.int 7919)))) aNil)) (eCst (.int 2147483629))))
  (sSeq (sAsg 5 (eBin modW (eCB intW (aCons (eBin addW (eBin addW (eBin mulW (eVar 5) (eVar 5)) (eVar 0)) (eBin mulW (eCst (.int 13)) (eVar 4))) aNil)) (eCst (.int 2147483587))))
  (sExpr (eBM "list" appendW (eVar 2) (aCons (eBin modW (eBin fdivW (eVar 5) (eCst (.int 7))) (eCst (.int 4096))) aNil)))))))
def m_l_draws : List P → Rp := runP 6 (sSeq (sAsg 2 (eLst aNil))
  (sSeq (sAsg 3 (eVar 0))
  (sSeq (sFor (iRange1 (aCons (eVar 1) aNil)) (.nm 4) m_l_draws_b1)
  (sRet (eVar 2)))))
/-! _law_cell -/
def m_l_cell : List P → Rp := runP 2 (sSeq (sIf (tstB (eBin ltW (eVar 1) (eCB lenW (aCons (eVar 0) aNil)))) (sRet (eCB absW (aCons (eCB intW (aCons (eBin ixW (eVar 0) (eVar 1)) aNil)) aNil))) sSkip)
  (sRet (eCst (.int 0))))
/-! _law_drawn_segments -/
def m_l_drawn_segments_b1 : FS := (sSeq (sAsg 7 (eBin ixW (eVar 0) (eBin addW (eBin addW (eCst (.int 4)) (eBin mulW (eCst (.int 3)) (eVar 5))) (eVar 6))))
  (sSeq (sAsg 8 (eBin ixW (eLstP (aCons (eCst (.str "coast")) (aCons (eCst (.str "coast")) (aCons (eCst (.str "lift")) aNil)))) (eBin modW (eVar 7) (eCst (.int 3)))))
  (sSeq (sAsg 9 (eBin subW (eBin modW (eBin fdivW (eVar 7) (eCst (.int 3))) (eCst (.int 61))) (eCst (.int 30))))
  (sSeq (sAsg 10 (eBin addW (eCst (.int 1)) (eBin modW (eBin fdivW (eVar 7) (eCst (.int 200))) (eVar 1))))
  (sSeq (sExpr (eBM "list" appendW (eVar 3) (aCons (eTup (aCons (eVar 8) (aCons (eVar 10) (aCons (eVar 9) aNil)))) aNil)))
  (sAsg 4 (eBin addW (eVar 4) (eBin mulW (eVar 10) (eVar 9)))))))))
def m_l_drawn_segments_b2 : FS := (sSeq (sFor (iRange1 (aCons (eBin modW (eBin ixW (eVar 0) (eBin addW (eCst (.int 1)) (eVar 5))) (eCst (.int 3))) aNil)) (.nm 6) m_l_drawn_segments_b1)
  (sSeq (sAsg 11 (eBin subW (eBin modW (eBin ixW (eVar 0) (eBin addW (eCst (.int 17)) (eVar 5))) (eCst (.int 5))) (eCst (.int 2))))
  (sSeq (sExpr (eBM "list" appendW (eVar 3) (aCons (eTup (aCons (eCst (.str "brake")) (aCons (eBin addW (eCst (.int 1)) (eBin modW (eBin ixW (eVar 0) (eBin addW (eCst (.int 14)) (eVar 5))) (eCst (.int 6)))) (aCons (eVar 11) aNil)))) aNil)))
  (sAsg 4 (eBin addW (eVar 4) (eBin mulW (eBin ixW (eBin ixW (eVar 3) (eUn negW (eCst (.int 1)))) (eCst (.int 1))) (eVar 11)))))))
def m_l_drawn_segments_b3 : FS := (sIf (tstB (eBin (eqW true) (eVar 12) (eCst (.int 0)))) (sSeq (sAsg 9 (eCB max2W (aCons (eUn negW (eCst (.int 90))) (aCons (eCB min2W (aCons (eCst (.int 90)) (aCons (eVar 12) aNil))) aNil))))
  (sSeq (sExpr (eBM "list" insertW (eVar 3) (aCons (eCst (.int 0)) (aCons (eTup (aCons (eBin ixW (eLstP (aCons (eBin ixW (eTup (aCons (eCst (.str "coast")) (aCons (eCst (.str "lift")) aNil))) (eCB intW (aCons (eBin gtW (eVar 9) (eCst (.int 0))) aNil))) (aCons (eCst (.str "coast")) aNil))) (eBin modW (eBin ixW (eVar 0) (eCst (.int 21))) (eCst (.int 2)))) (aCons (eCst (.int 1)) (aCons (eVar 9) aNil)))) aNil))))
  (sAsg 12 (eBin subW (eVar 12) (eVar 9))))) sSkip)
def m_l_drawn_segments : List P → Rp := runP 13 (sSeq (sAsg 2 (eBin addW (eCst (.int 2)) (eBin modW (eBin ixW (eVar 0) (eCst (.int 0))) (eCst (.int 2)))))
  (sSeq (sAsg 3 (eLst aNil))
  (sSeq (sAsg 4 (eCst (.int 0)))
  (sSeq (sFor (iRange1 (aCons (eVar 2) aNil)) (.nm 5) m_l_drawn_segments_b2)
  (sSeq (sExpr (eBM "list" insertW (eVar 3) (aCons (eBin modW (eBin ixW (eVar 0) (eCst (.int 20))) (eCB lenW (aCons (eVar 3) aNil))) (aCons (eTup (aCons (eCst (.str "coast")) (aCons (eBin ixW (eLstP (aCons (eCst (.int 1)) (aCons (eCst (.int 1)) (aCons (eCst (.int 1)) (aCons (eCst (.int 1)) (aCons (eCst (.int 300)) aNil)))))) (eBin modW (eBin ixW (eVar 0) (eCst (.int 22))) (eCst (.int 5)))) (aCons (eCst (.int 0)) aNil)))) aNil))))
  (sSeq (sAsg 12 (eUn negW (eVar 4)))
  (sSeq (sFor (iRange1 (aCons (eCst (.int 40)) aNil)) (.nm 6) m_l_drawn_segments_b3)
  (sRet (eVar 3)))))))))
/-! _law_drawn_layout -/
def m_l_drawn_layout : List P → Rp := runP 6 (sSeq (sAsg 1 (eCall 2 m_l_drawn_segments (aCons (eVar 0) (aCons (eCst (.int 5)) aNil))))
  (sSeq (sAsg 2 (eCB sumW (aCons (eLc (iSeq (eVar 1)) [3, 4, 5] (.tp [(.nm 3), (.nm 4), (.nm 5)]) cYes (eBin mulW (eVar 4) (eVar 5))) aNil)))
  (sSeq (sIf (tstB (eBin (eqW true) (eVar 2) (eCst (.int 0)))) (sAsg 1 (eLstP (aCons (eTup (aCons (eCst (.str "lift")) (aCons (eCst (.int 6)) (aCons (eCst (.int 25)) aNil)))) (aCons (eTup (aCons (eCst (.str "coast")) (aCons (eCst (.int 5)) (aCons (eUn negW (eCst (.int 30))) aNil)))) (aCons (eTup (aCons (eCst (.str "brake")) (aCons (eCst (.int 3)) (aCons (eCst (.int 0)) aNil)))) (aCons (eTup (aCons (eCst (.str "coast")) (aCons (eCst (.int 3)) (aCons (eCst (.int 0)) aNil)))) (aCons (eTup (aCons (eCst (.str "brake")) (aCons (eCst (.int 4)) (aCons (eCst (.int 0)) aNil)))) aNil))))))) sSkip)
  (sRet (eVar 1)))))
/-! _law_metres -/
def m_l_metres_b1 : FS := (sExpr (eBM "list" appendW (eVar 1) (aCons (eTup (aCons (eVar 3) (aCons (eVar 5) (aCons (eVar 2) aNil)))) aNil)))
def m_l_metres_b2 : FS := (sSeq (sFor (iRange1 (aCons (eVar 4) aNil)) (.nm 6) m_l_metres_b1)
  (sAsg 2 (eBin addW (eVar 2) (eCB intW (aCons (eBin (eqW false) (eVar 3) (eCst (.str "brake"))) aNil)))))
def m_l_metres : List P → Rp := runP 7 (sSeq (sAsg 1 (eLst aNil))
  (sSeq (sAsg 2 (eCst (.int 0)))
  (sSeq (sFor (iSeq (eVar 0)) (.tp [(.nm 3), (.nm 4), (.nm 5)]) m_l_metres_b2)
  (sRet (eVar 1)))))
/-! check_segments -/
def m_check_segments_b1 : FS := (sIf (tOrB (tstB (eBin (inW true) (eVar 1) (eCst (.tup [.str "coast", .str "lift", .str "brake"])))) (tOrB (tNotB (tstB (eChain leW leW (eCst (.int 1)) (eVar 2) (eCst (.int 500))))) (tNotB (tstB (eChain leW leW (eUn negW (eCst (.int 100))) (eVar 3) (eCst (.int 100))))))) (sRaise "InvalidLayout") sSkip)
def m_check_segments : List P → Rp := runP 5 (sSeq (sFor (iSeq (eVar 0)) (.tp [(.nm 1), (.nm 2), (.nm 3)]) m_check_segments_b1)
  (sSeq (sIf (tstB (eBin gtW (eCB sumW (aCons (eLc (iSeq (eVar 0)) [4, 2] (.tp [(.nm 4), (.nm 2), (.nm 4)]) cYes (eVar 2)) aNil)) (eCst (.int 4000)))) (sRaise "InvalidLayout") sSkip)
  (sSeq (sIf (tstB (eBin (eqW true) (eCB sumW (aCons (eLc (iSeq (eVar 0)) [4, 2, 3] (.tp [(.nm 4), (.nm 2), (.nm 3)]) cYes (eBin mulW (eVar 2) (eVar 3))) aNil)) (eCst (.int 0)))) (sRaise "InvalidLayout") sSkip)
  (sSeq (sIf (tOrB (tstB (eBin (eqW false) (eCB lenW (aCons (eVar 0) aNil)) (eCst (.int 0)))) (tstB (eBin (eqW true) (eBin ixW (eBin ixW (eVar 0) (eUn negW (eCst (.int 1)))) (eCst (.int 0))) (eCst (.str "brake"))))) (sRaise "InvalidLayout") sSkip)
  (sIf (tNotB (tstB (eChain leW leW (eCst (.int 2)) (eCB lenW (aCons (eLc (iSeq (eVar 0)) [1, 4] (.tp [(.nm 1), (.nm 4), (.nm 4)]) (tstB (eBin (eqW false) (eVar 1) (eCst (.str "brake")))) (eVar 1)) aNil)) (eCst (.int 12))))) (sRaise "InvalidLayout") sSkip)))))
/-! Layout.__init__ -/
def m_Layout_init_b1 : FS := (sSeq (sExpr (eBM "list" appendW (eFld "Layout" "metres" (eVar 0)) (aCons (eTup (aCons (eVar 2) (aCons (eVar 4) (aCons (eVar 5) aNil)))) aNil)))
  (sExpr (eBM "list" appendW (eFld "Layout" "heights" (eVar 0)) (aCons (eBin addW (eBin ixW (eFld "Layout" "heights" (eVar 0)) (eUn negW (eCst (.int 1)))) (eVar 4)) aNil))))
def m_Layout_init_b2 : FS := (sSeq (sIf (tstB (eBin (eqW false) (eVar 2) (eCst (.str "brake")))) (sExpr (eBM "list" appendW (eFld "Layout" "brakes" (eVar 0)) (aCons (eCB lenW (aCons (eFld "Layout" "metres" (eVar 0)) aNil)) aNil))) sSkip)
  (sSeq (sAsg 5 (eBin subW (eCB lenW (aCons (eFld "Layout" "begins" (eVar 0)) aNil)) (eCst (.int 1))))
  (sSeq (sFor (iRange1 (aCons (eVar 3) aNil)) (.nm 6) m_Layout_init_b1)
  (sIf (tstB (eBin (eqW false) (eVar 2) (eCst (.str "brake")))) (sExpr (eBM "list" appendW (eFld "Layout" "begins" (eVar 0)) (aCons (eCB lenW (aCons (eFld "Layout" "metres" (eVar 0)) aNil)) aNil))) sSkip))))
def m_Layout_init : List P → Rp := runI "Layout" 7 (sSeq (sExpr (eCall 1 m_check_segments (aCons (eVar 1) aNil)))
  (sSeq (sFldS "Layout" "segments" (eVar 0) (eCB tupleW (aCons (eVar 1) aNil)))
  (sSeq (sFldS "Layout" "metres" (eVar 0) (eLst aNil))
  (sSeq (sFldS "Layout" "begins" (eVar 0) (eLst (aCons (eCst (.int 0)) aNil)))
  (sSeq (sFldS "Layout" "brakes" (eVar 0) (eLst aNil))
  (sSeq (sFldS "Layout" "heights" (eVar 0) (eLst (aCons (eCst (.int 0)) aNil)))
  (sFor (iSeq (eVar 1)) (.tp [(.nm 2), (.nm 3), (.nm 4)]) m_Layout_init_b2)))))))
/-! _law_layout -/
def m_l_layout : List P → Rp := runP 2 (sRet (eCall 1 m_Layout_init (aCons (eLc (iSeq (eVar 0)) [1] (.nm 1) cYes (eVar 1)) aNil)))
/-! is_interval -/
def m_is_interval : List P → Rp := runP 1 (sRet (eAnd (eBin (eqW false) (eCB lenW (aCons (eVar 0) aNil)) (eCst (.int 2))) (eBin leW (eBin ixW (eVar 0) (eCst (.int 0))) (eBin ixW (eVar 0) (eCst (.int 1))))))
/-! Train.__init__ -/
def m_Train_init : List P → Rp := runI "Train" 6 (sSeq (sIf (tNotB (tstB (eChain leW leW (eCst (.int 1)) (eVar 1) (eCst (.int 100))))) (sRaise "InvalidTrain") sSkip)
  (sSeq (sIf (tOrB (tNotB (tstB (eCall 1 m_is_interval (aCons (eVar 2) aNil)))) (tOrB (tstB (eBin ltW (eBin ixW (eVar 2) (eCst (.int 0))) (eCst (.int 0)))) (tstB (eBin gtW (eBin ixW (eVar 2) (eCst (.int 1))) (eCst (.int 100000)))))) (sRaise "InvalidTrain") sSkip)
  (sSeq (sIf (tOrB (tNotB (tstB (eCall 1 m_is_interval (aCons (eVar 3) aNil)))) (tOrB (tstB (eBin ltW (eBin ixW (eVar 3) (eCst (.int 0))) (eCst (.int 1)))) (tstB (eBin gtW (eBin ixW (eVar 3) (eCst (.int 1))) (eCst (.int 1000000)))))) (sRaise "InvalidTrain") sSkip)
  (sSeq (sIf (tOrB (tNotB (tstB (eChain leW leW (eCst (.int 1)) (eVar 4) (eCst (.int 10000000))))) (tNotB (tstB (eChain leW leW (eCst (.int 1)) (eVar 5) (eCst (.int 10000000)))))) (sRaise "InvalidTrain") sSkip)
  (sSeq (sFldS "Train" "length" (eVar 0) (eVar 1))
  (sSeq (sFldS "Train" "friction" (eVar 0) (eVar 2))
  (sSeq (sFldS "Train" "brake" (eVar 0) (eVar 3))
  (sSeq (sFldS "Train" "lift" (eVar 0) (eVar 4))
  (sFldS "Train" "drive" (eVar 0) (eVar 5))))))))))
/-! _law_train -/
def m_l_train : List P → Rp := runP 1 (sRet (eCall 5 m_Train_init (aCons (eBin ixW (eVar 0) (eCst (.int 0))) (aCons (eBin ixW (eVar 0) (eCst (.int 1))) (aCons (eBin ixW (eVar 0) (eCst (.int 2))) (aCons (eBin ixW (eVar 0) (eCst (.int 3))) (aCons (eBin ixW (eVar 0) (eCst (.int 4))) aNil)))))))
/-! _law_after -/
def m_l_after : List P → Rp := runP 9 (sSeq (sAsgT (.tp [(.nm 5), (.nm 6), (.nm 7)]) (eVar 0))
  (sSeq (sAsg 8 (eBin subW (eBin subW (eVar 2) (eBin mulW (eCst (.int 1962)) (eVar 6))) (eVar 3)))
  (sSeq (sIf (tstB (eBin (eqW false) (eVar 5) (eCst (.str "lift")))) (sRet (eCB max2W (aCons (eBin ixW (eVar 1) (eCst (.int 3))) (aCons (eVar 8) aNil)))) sSkip)
  (sSeq (sIf (tAndB (tstB (eBin (eqW false) (eVar 5) (eCst (.str "brake")))) (tstB (eBin (isW false) (eVar 4) (eCst .non)))) (sRet (eCB max2W (aCons (eBin ixW (eVar 1) (eCst (.int 4))) (aCons (eVar 8) aNil)))) sSkip)
  (sSeq (sIf (tstB (eBin (eqW false) (eVar 5) (eCst (.str "brake")))) (sAsg 8 (eBin subW (eVar 8) (eVar 4))) sSkip)
  (sSeq (sIf (tstB (eBin (eqW false) (eVar 2) (eCst (.int 0)))) (sRet (eCst (.int 0))) sSkip)
  (sRet (eCB max2W (aCons (eCst (.int 0)) (aCons (eVar 8) aNil))))))))))
/-! _law_rolled -/
def m_l_rolled_b1 : FS := (sSeq (sAsg 3 (eCall 5 m_l_after (aCons (eBin ixW (eVar 0) (eBin modW (eBin addW (eVar 2) (eVar 7)) (eCB lenW (aCons (eVar 0) aNil)))) (aCons (eVar 1) (aCons (eVar 3) (aCons (eBin ixW (eVar 4) (eVar 7)) (aCons (eBin ixW (eVar 5) (eVar 7)) aNil)))))))
  (sExpr (eBM "list" appendW (eVar 6) (aCons (eVar 3) aNil))))
def m_l_rolled : List P → Rp := runP 8 (sSeq (sAsg 6 (eLst aNil))
  (sSeq (sFor (iRange1 (aCons (eCB lenW (aCons (eVar 4) aNil)) aNil)) (.nm 7) m_l_rolled_b1)
  (sRet (eVar 6))))
/-! _law_like -/
def m_l_like : Nat → List P → Rp
  | 0 => fun _ => .bad
  | j + 1 => runP 3 (sSeq (sIf (tstB (eBin (isW false) (eVar 1) (eCst .non))) (sRet (eBin (isW false) (eVar 0) (eCst .non))) sSkip)
  (sSeq (sIf (tstB (eUn (isiW "bool") (eVar 1))) (sRet (eAnd (eUn (isiW "bool") (eVar 0)) (eBin (eqW false) (eVar 0) (eVar 1)))) sSkip)
  (sSeq (sIf (tstB (eUn (isiW "str") (eVar 1))) (sRet (eAnd (eUn (isiW "str") (eVar 0)) (eBin (eqW false) (eVar 0) (eVar 1)))) sSkip)
  (sSeq (sIf (tstB (eUn (isiW "int") (eVar 1))) (sRet (eAnd (eUn (isiW "int") (eVar 0)) (eAnd (eNot (eUn (isiW "bool") (eVar 0))) (eBin (eqW false) (eVar 0) (eVar 1))))) sSkip)
  (sSeq (sIf (tOrB (tstB (eBin (eqW true) (eUn (isiW "list") (eVar 1)) (eUn (isiW "list") (eVar 0)))) (tstB (eBin (eqW true) (eUn (isiW "tuple") (eVar 1)) (eUn (isiW "tuple") (eVar 0))))) (sRet (eCst (.bl false))) sSkip)
  (sSeq (sIf (tstB (eBin (eqW true) (eCB lenW (aCons (eVar 0) aNil)) (eCB lenW (aCons (eVar 1) aNil)))) (sRet (eCst (.bl false))) sSkip)
  (sRet (eCB (allW true) (aCons (eLc (iRange1 (aCons (eCB lenW (aCons (eVar 1) aNil)) aNil)) [2] (.nm 2) cYes (eCall 2 (m_l_like j) (aCons (eBin ixW (eVar 0) (eVar 2)) (aCons (eBin ixW (eVar 1) (eVar 2)) aNil)))) aNil)))))))))
/-! Layout.check_metre -/
def m_Layout_check_metre : List P → Rp := runP 2 (sIf (tNotB (tstB (eChain leW ltW (eCst (.int 0)) (eVar 1) (eCB lenW (aCons (eFld "Layout" "metres" (eVar 0)) aNil))))) (sRaise "BadNumber") sSkip)
/-! check_energy -/
def m_check_energy : List P → Rp := runP 3 (sSeq (sExpr (eMeth "Layout" "check_metre" 2 m_Layout_check_metre (eVar 0) (aCons (eVar 1) aNil)))
  (sIf (tstB (eBin ltW (eVar 2) (eCst (.int 0)))) (sRaise "BadNumber") sSkip))
/-! Layout.metre -/
def m_Layout_metre : List P → Rp := runP 2 (sSeq (sExpr (eMeth "Layout" "check_metre" 2 m_Layout_check_metre (eVar 0) (aCons (eVar 1) aNil)))
  (sRet (eBin ixW (eFld "Layout" "metres" (eVar 0)) (eVar 1))))
/-! after_metre -/
def m_after_metre : List P → Rp := runP 10 (sSeq (sExpr (eCall 3 m_check_energy (aCons (eVar 0) (aCons (eVar 2) (aCons (eVar 3) aNil)))))
  (sSeq (sAsgT (.tp [(.nm 6), (.nm 7), (.nm 8)]) (eMeth "Layout" "metre" 2 m_Layout_metre (eVar 0) (aCons (eVar 2) aNil)))
  (sSeq (sAsg 9 (eBin subW (eBin subW (eVar 3) (eBin mulW (eCst (.int 1962)) (eVar 7))) (eVar 4)))
  (sSeq (sIf (tstB (eBin (eqW false) (eVar 6) (eCst (.str "lift")))) (sRet (eCB max2W (aCons (eFld "Train" "lift" (eVar 1)) (aCons (eVar 9) aNil)))) sSkip)
  (sSeq (sIf (tAndB (tstB (eBin (eqW false) (eVar 6) (eCst (.str "brake")))) (tstB (eBin (isW false) (eVar 5) (eCst .non)))) (sRet (eCB max2W (aCons (eFld "Train" "drive" (eVar 1)) (aCons (eVar 9) aNil)))) sSkip)
  (sSeq (sIf (tstB (eBin (eqW false) (eVar 6) (eCst (.str "brake")))) (sAug 9 subW (eVar 5)) sSkip)
  (sRet (eIf (tstB (eBin gtW (eVar 3) (eCst (.int 0)))) (eCB max2W (aCons (eCst (.int 0)) (aCons (eVar 9) aNil))) (eCst (.int 0))))))))))
/-! Layout.total -/
def m_Layout_total : List P → Rp := runP 1 (sRet (eCB lenW (aCons (eFld "Layout" "metres" (eVar 0)) aNil)))
/-! roll -/
def m_roll_b1 : FS := (sSeq (sAsg 3 (eCall 6 m_after_metre (aCons (eVar 0) (aCons (eVar 1) (aCons (eVar 2) (aCons (eVar 3) (aCons (eVar 7) (aCons (eVar 8) aNil))))))))
  (sSeq (sExpr (eBM "list" appendW (eVar 6) (aCons (eVar 3) aNil)))
  (sAsg 2 (eBin modW (eBin addW (eVar 2) (eCst (.int 1))) (eMeth "Layout" "total" 1 m_Layout_total (eVar 0) aNil)))))
def m_roll : List P → Rp := runP 9 (sSeq (sExpr (eCall 3 m_check_energy (aCons (eVar 0) (aCons (eVar 2) (aCons (eVar 3) aNil)))))
  (sSeq (sIf (tstB (eBin (eqW true) (eCB lenW (aCons (eVar 4) aNil)) (eCB lenW (aCons (eVar 5) aNil)))) (sRaise "NotFitting") sSkip)
  (sSeq (sAsg 6 (eLst aNil))
  (sSeq (sFor (iZip (aCons (eVar 4) (aCons (eVar 5) aNil))) (.tp [(.nm 7), (.nm 8)]) m_roll_b1)
  (sRet (eVar 6))))))
/-! _law_told -/
def m_l_told : List P → Rp := runP 6 (sTry exmT (sRet (eCall 6 m_roll (aCons (eVar 0) (aCons (eVar 1) (aCons (eVar 2) (aCons (eVar 3) (aCons (eVar 4) (aCons (eVar 5) aNil)))))))) [("BadNumber", (sRet (eTup (aCons (eCst (.str "number")) aNil)))), ("NotFitting", (sRet (eTup (aCons (eCst (.str "fit")) aNil))))])
/-! _law_equal -/
def m_l_equal : Nat → List P → Rp
  | 0 => fun _ => .bad
  | j + 1 => runP 4 (sSeq (sIf (tOrB (tstB (eBin (eqW true) (eUn (isiW "bool") (eVar 0)) (eUn (isiW "bool") (eVar 1)))) (tOrB (tstB (eBin (eqW true) (eUn (isiW "int") (eVar 0)) (eUn (isiW "int") (eVar 1)))) (tstB (eBin (eqW true) (eUn (isiW "str") (eVar 0)) (eUn (isiW "str") (eVar 1)))))) (sRet (eCst (.bl false))) sSkip)
  (sSeq (sIf (tOrB (tstB (eBin (eqW true) (eUn (isiW "list") (eVar 0)) (eUn (isiW "list") (eVar 1)))) (tOrB (tstB (eBin (eqW true) (eUn (isiW "tuple") (eVar 0)) (eUn (isiW "tuple") (eVar 1)))) (tstB (eBin (eqW true) (eUn (isiW "dict") (eVar 0)) (eUn (isiW "dict") (eVar 1)))))) (sRet (eCst (.bl false))) sSkip)
  (sSeq (sIf (tOrB (tstB (eUn (isiW "list") (eVar 1))) (tstB (eUn (isiW "tuple") (eVar 1)))) (sRet (eAnd (eBin (eqW false) (eCB lenW (aCons (eVar 0) aNil)) (eCB lenW (aCons (eVar 1) aNil))) (eCB (allW true) (aCons (eLc (iRange1 (aCons (eCB lenW (aCons (eVar 1) aNil)) aNil)) [2] (.nm 2) cYes (eCall 2 (m_l_equal j) (aCons (eBin ixW (eVar 0) (eVar 2)) (aCons (eBin ixW (eVar 1) (eVar 2)) aNil)))) aNil)))) sSkip)
  (sSeq (sIf (tstB (eUn (isiW "dict") (eVar 1))) (sRet (eAnd (eBin (eqW false) (eCB lenW (aCons (eVar 0) aNil)) (eCB lenW (aCons (eVar 1) aNil))) (eCB (allW true) (aCons (eLc (iSeq (eVar 1)) [3] (.nm 3) cYes (eAnd (eBin (inW false) (eVar 3) (eVar 0)) (eCall 2 (m_l_equal j) (aCons (eBin ixW (eVar 0) (eVar 3)) (aCons (eBin ixW (eVar 1) (eVar 3)) aNil))))) aNil)))) sSkip)
  (sRet (eBin (isW false) (eBin (eqW false) (eVar 0) (eVar 1)) (eCst (.bl true))))))))
/-! law -/
def m_law_b1 : FS := (sSeq (sAsg 11 (eCst .non))
  (sSeq (sIf (tstB (eBin (eqW false) (eBin modW (eBin fdivW (eBin ixW (eVar 6) (eVar 9)) (eCst (.int 7))) (eCst (.int 3))) (eCst (.int 0)))) (sAsg 11 (eBin addW (eBin ixW (eBin ixW (eVar 1) (eCst (.int 2))) (eCst (.int 0))) (eBin modW (eBin ixW (eVar 6) (eVar 9)) (eBin addW (eBin subW (eBin ixW (eBin ixW (eVar 1) (eCst (.int 2))) (eCst (.int 1))) (eBin ixW (eBin ixW (eVar 1) (eCst (.int 2))) (eCst (.int 0)))) (eCst (.int 1)))))) sSkip)
  (sExpr (eBM "list" appendW (eVar 10) (aCons (eVar 11) aNil)))))
def m_law : List P → Rp := runP 16 (sSeq (sAsg 1 (eCall 1 m_l_drawn_train (aCons (eCall 2 m_l_draws (aCons (eCall 2 m_l_cell (aCons (eVar 0) (aCons (eCst (.int 1)) aNil))) (aCons (eCst (.int 8)) aNil))) aNil)))
  (sSeq (sAsg 2 (eCall 1 m_l_drawn_layout (aCons (eCall 2 m_l_draws (aCons (eCall 2 m_l_cell (aCons (eVar 0) (aCons (eCst (.int 0)) aNil))) (aCons (eCst (.int 30)) aNil))) aNil)))
  (sSeq (sAsg 3 (eCall 1 m_l_metres (aCons (eVar 2) aNil)))
  (sSeq (sAsg 4 (eCall 1 m_l_layout (aCons (eVar 2) aNil)))
  (sSeq (sAsg 5 (eCall 1 m_l_train (aCons (eVar 1) aNil)))
  (sSeq (sAsg 6 (eCall 2 m_l_draws (aCons (eCall 2 m_l_cell (aCons (eVar 0) (aCons (eCst (.int 2)) aNil))) (aCons (eCst (.int 84)) aNil))))
  (sSeq (sAsg 7 (eBin modW (eBin ixW (eVar 6) (eCst (.int 80))) (eCB lenW (aCons (eVar 3) aNil))))
  (sSeq (sAsg 8 (eLc (iRange1 (aCons (eBin modW (eBin ixW (eVar 6) (eCst (.int 81))) (eCst (.int 80))) aNil)) [9] (.nm 9) cYes (eBin addW (eBin ixW (eBin ixW (eVar 1) (eCst (.int 1))) (eCst (.int 0))) (eBin modW (eBin ixW (eVar 6) (eVar 9)) (eBin addW (eBin subW (eBin ixW (eBin ixW (eVar 1) (eCst (.int 1))) (eCst (.int 1))) (eBin ixW (eBin ixW (eVar 1) (eCst (.int 1))) (eCst (.int 0)))) (eCst (.int 1)))))))
  (sSeq (sAsg 10 (eLst aNil))
  (sSeq (sFor (iRange1 (aCons (eCB lenW (aCons (eVar 8) aNil)) aNil)) (.nm 9) m_law_b1)
  (sSeq (sAsg 12 (eBin mulW (eBin ixW (eVar 6) (eCst (.int 82))) (eBin addW (eCst (.int 1)) (eBin modW (eBin ixW (eVar 6) (eCst (.int 83))) (eCst (.int 200))))))
  (sSeq (sAsg 13 (eCall 6 m_l_rolled (aCons (eVar 3) (aCons (eVar 1) (aCons (eVar 7) (aCons (eVar 12) (aCons (eVar 8) (aCons (eVar 10) aNil))))))))
  (sSeq (sAsg 14 (eLstP (aCons (eLc (iSeq (eVar 8)) [15] (.nm 15) cYes (eVar 15)) (aCons (eLc (iSeq (eVar 10)) [15] (.nm 15) cYes (eVar 15)) aNil))))
  (sSeq (sIf (tNotB (tstB (eCall 2 (m_l_like 5) (aCons (eCall 6 m_roll (aCons (eVar 4) (aCons (eVar 5) (aCons (eVar 7) (aCons (eVar 12) (aCons (eVar 8) (aCons (eVar 10) aNil))))))) (aCons (eVar 13) aNil))))) (sRet (eCst (.bl false))) sSkip)
  (sSeq (sIf (tstB (eBin (eqW true) (eLstP (aCons (eLc (iSeq (eVar 8)) [15] (.nm 15) cYes (eVar 15)) (aCons (eLc (iSeq (eVar 10)) [15] (.nm 15) cYes (eVar 15)) aNil))) (eVar 14))) (sRet (eCst (.bl false))) sSkip)
  (sSeq (sIf (tOrB (tstB (eBin (eqW true) (eCall 6 m_l_told (aCons (eVar 4) (aCons (eVar 5) (aCons (eVar 7) (aCons (eVar 12) (aCons (eBin addW (eVar 8) (eLstP (aCons (eCst (.int 1)) aNil))) (aCons (eVar 10) aNil))))))) (eTup (aCons (eCst (.str "fit")) aNil)))) (tNotB (tstB (eCall 2 (m_l_equal 5) (aCons (eCall 6 m_l_told (aCons (eVar 4) (aCons (eVar 5) (aCons (eVar 7) (aCons (eVar 12) (aCons (eVar 8) (aCons (eBin addW (eVar 10) (eLstP (aCons (eCst .non) aNil))) aNil))))))) (aCons (eTup (aCons (eCst (.str "fit")) aNil)) aNil)))))) (sRet (eCst (.bl false))) sSkip)
  (sRet (eAnd (eCall 2 (m_l_equal 5) (aCons (eCall 6 m_l_told (aCons (eVar 4) (aCons (eVar 5) (aCons (eCB lenW (aCons (eVar 3) aNil)) (aCons (eVar 12) (aCons (eLstP aNil) (aCons (eLstP (aCons (eCst .non) aNil)) aNil))))))) (aCons (eTup (aCons (eCst (.str "number")) aNil)) aNil))) (eCall 2 (m_l_equal 5) (aCons (eCall 6 m_l_told (aCons (eVar 4) (aCons (eVar 5) (aCons (eVar 7) (aCons (eUn negW (eCst (.int 1))) (aCons (eLstP (aCons (eCst (.int 1)) aNil)) (aCons (eLstP aNil) aNil))))))) (aCons (eTup (aCons (eCst (.str "number")) aNil)) aNil)))))))))))))))))))))
end Gk07
end
-- part G07
section
set_option Elab.async false
set_option linter.all false
set_option maxRecDepth 100000
set_option maxHeartbeats 0
set_option autoImplicit false
namespace Gk07
open PySem PySem.Spec PyProof.Rows L2 Z
def top (i : Nat) : Stmt := PySem.Challenge.pw_coastersafe_k07_rolls.main.body.getD i (.Pass ⟨0, 0, 0, 0⟩)
abbrev s_l_drawn_train : Stmt := top 35
theorem sc_l_drawn_train : FnScope ["draws", "rough", "strong"] ["draws"] (defScope s_l_drawn_train) := ⟨rfl, rfl, rfl, by decide +kernel, rfl, by decide +kernel, by decide +kernel⟩
abbrev s_l_draws : Stmt := top 31
theorem sc_l_draws : FnScope ["cell", "count", "rows", "left", "k", "mixed"] ["cell", "count"] (defScope s_l_draws) := ⟨rfl, rfl, rfl, by decide +kernel, rfl, by decide +kernel, by decide +kernel⟩
abbrev s_l_cell : Stmt := top 30
theorem sc_l_cell : FnScope ["script", "k"] ["script", "k"] (defScope s_l_cell) := ⟨rfl, rfl, rfl, by decide +kernel, rfl, by decide +kernel, by decide +kernel⟩
abbrev s_l_drawn_segments : Stmt := top 33
theorem sc_l_drawn_segments : FnScope ["draws", "most", "count", "rows", "height", "block", "k", "draw", "kind", "slope", "length", "tilt", "left"] ["draws", "most"] (defScope s_l_drawn_segments) := ⟨rfl, rfl, rfl, by decide +kernel, rfl, by decide +kernel, by decide +kernel⟩
abbrev s_l_drawn_layout : Stmt := top 34
theorem sc_l_drawn_layout : FnScope ["draws", "rows", "height", "kind", "length", "slope"] ["draws"] (defScope s_l_drawn_layout) := ⟨rfl, rfl, rfl, by decide +kernel, rfl, by decide +kernel, by decide +kernel⟩
abbrev s_l_metres : Stmt := top 36
theorem sc_l_metres : FnScope ["rows", "found", "block", "kind", "length", "slope", "k"] ["rows"] (defScope s_l_metres) := ⟨rfl, rfl, rfl, by decide +kernel, rfl, by decide +kernel, by decide +kernel⟩
abbrev s_check_segments : Stmt := top 20
theorem sc_check_segments : FnScope ["segments", "kind", "length", "slope", "_"] ["segments"] (defScope s_check_segments) := ⟨rfl, rfl, rfl, by decide +kernel, rfl, by decide +kernel, by decide +kernel⟩
abbrev s_Layout_init : Stmt := inClass (top 21) 0
theorem sc_Layout_init : FnScope ["self", "segments", "kind", "length", "slope", "block", "_"] ["self", "segments"] (defScope s_Layout_init) := ⟨rfl, rfl, rfl, by decide +kernel, rfl, by decide +kernel, by decide +kernel⟩
abbrev s_l_layout : Stmt := top 38
theorem sc_l_layout : FnScope ["rows", "row"] ["rows"] (defScope s_l_layout) := ⟨rfl, rfl, rfl, by decide +kernel, rfl, by decide +kernel, by decide +kernel⟩
abbrev s_is_interval : Stmt := top 8
theorem sc_is_interval : FnScope ["pair"] ["pair"] (defScope s_is_interval) := ⟨rfl, rfl, rfl, by decide +kernel, rfl, by decide +kernel, by decide +kernel⟩
abbrev s_Train_init : Stmt := inClass (top 27) 0
theorem sc_Train_init : FnScope ["self", "length", "friction", "brake", "lift", "drive"] ["self", "length", "friction", "brake", "lift", "drive"] (defScope s_Train_init) := ⟨rfl, rfl, rfl, by decide +kernel, rfl, by decide +kernel, by decide +kernel⟩
abbrev s_l_train : Stmt := top 39
theorem sc_l_train : FnScope ["data"] ["data"] (defScope s_l_train) := ⟨rfl, rfl, rfl, by decide +kernel, rfl, by decide +kernel, by decide +kernel⟩
abbrev s_l_after : Stmt := top 37
theorem sc_l_after : FnScope ["metre", "data", "energy", "friction", "strength", "kind", "slope", "block", "rest"] ["metre", "data", "energy", "friction", "strength"] (defScope s_l_after) := ⟨rfl, rfl, rfl, by decide +kernel, rfl, by decide +kernel, by decide +kernel⟩
abbrev s_l_rolled : Stmt := top 40
theorem sc_l_rolled : FnScope ["metres", "data", "first", "energy", "frictions", "strengths", "found", "k"] ["metres", "data", "first", "energy", "frictions", "strengths"] (defScope s_l_rolled) := ⟨rfl, rfl, rfl, by decide +kernel, rfl, by decide +kernel, by decide +kernel⟩
abbrev s_l_like : Stmt := top 32
theorem sc_l_like : FnScope ["actual", "due", "k"] ["actual", "due"] (defScope s_l_like) := ⟨rfl, rfl, rfl, by decide +kernel, rfl, by decide +kernel, by decide +kernel⟩
abbrev s_Layout_check_metre : Stmt := inClass (top 21) 3
theorem sc_Layout_check_metre : FnScope ["self", "number"] ["self", "number"] (defScope s_Layout_check_metre) := ⟨rfl, rfl, rfl, by decide +kernel, rfl, by decide +kernel, by decide +kernel⟩
abbrev s_check_energy : Stmt := top 11
theorem sc_check_energy : FnScope ["layout", "metre", "energy"] ["layout", "metre", "energy"] (defScope s_check_energy) := ⟨rfl, rfl, rfl, by decide +kernel, rfl, by decide +kernel, by decide +kernel⟩
abbrev s_Layout_metre : Stmt := inClass (top 21) 5
theorem sc_Layout_metre : FnScope ["self", "number"] ["self", "number"] (defScope s_Layout_metre) := ⟨rfl, rfl, rfl, by decide +kernel, rfl, by decide +kernel, by decide +kernel⟩
abbrev s_after_metre : Stmt := top 12
theorem sc_after_metre : FnScope ["layout", "train", "metre", "energy", "friction", "strength", "kind", "slope", "_", "rest"] ["layout", "train", "metre", "energy", "friction", "strength"] (defScope s_after_metre) := ⟨rfl, rfl, rfl, by decide +kernel, rfl, by decide +kernel, by decide +kernel⟩
abbrev s_Layout_total : Stmt := inClass (top 21) 1
theorem sc_Layout_total : FnScope ["self"] ["self"] (defScope s_Layout_total) := ⟨rfl, rfl, rfl, by decide +kernel, rfl, by decide +kernel, by decide +kernel⟩
abbrev s_roll : Stmt := top 13
theorem sc_roll : FnScope ["layout", "train", "metre", "energy", "frictions", "strengths", "found", "friction", "strength"] ["layout", "train", "metre", "energy", "frictions", "strengths"] (defScope s_roll) := ⟨rfl, rfl, rfl, by decide +kernel, rfl, by decide +kernel, by decide +kernel⟩
abbrev s_l_told : Stmt := top 41
theorem sc_l_told : FnScope ["layout", "train", "metre", "energy", "frictions", "strengths"] ["layout", "train", "metre", "energy", "frictions", "strengths"] (defScope s_l_told) := ⟨rfl, rfl, rfl, by decide +kernel, rfl, by decide +kernel, by decide +kernel⟩
abbrev s_l_equal : Stmt := top 29
theorem sc_l_equal : FnScope ["x", "y", "k", "key"] ["x", "y"] (defScope s_l_equal) := ⟨rfl, rfl, rfl, by decide +kernel, rfl, by decide +kernel, by decide +kernel⟩
abbrev s_law : Stmt := top 42
theorem sc_law : FnScope ["script", "data", "rows", "metres", "layout", "train", "draws", "first", "frictions", "k", "strengths", "push", "energy", "due", "kept_before", "row"] ["script"] (defScope s_law) := ⟨rfl, rfl, rfl, by decide +kernel, rfl, by decide +kernel, by decide +kernel⟩
structure Txt (K : PySem.W.Frag) (mg : Str → Option Value) : Prop where
  f_l_drawn_train : ∃ fd, FunD K "_law_drawn_train" "_law_drawn_train" (defArgs s_l_drawn_train) (defBody s_l_drawn_train) (defScope s_l_drawn_train) [] [] (He.ga K "_law_drawn_train") fd
  g_l_drawn_train : mg "_law_drawn_train" = some (.ref (He.ga K "_law_drawn_train"))
  b_range : mg "range" = none
  b_int : mg "int" = none
  f_l_draws : ∃ fd, FunD K "_law_draws" "_law_draws" (defArgs s_l_draws) (defBody s_l_draws) (defScope s_l_draws) [] [] (He.ga K "_law_draws") fd
  g_l_draws : mg "_law_draws" = some (.ref (He.ga K "_law_draws"))
  b_len : mg "len" = none
  b_abs : mg "abs" = none
  f_l_cell : ∃ fd, FunD K "_law_cell" "_law_cell" (defArgs s_l_cell) (defBody s_l_cell) (defScope s_l_cell) [] [] (He.ga K "_law_cell") fd
  g_l_cell : mg "_law_cell" = some (.ref (He.ga K "_law_cell"))
  b_min : mg "min" = none
  b_max : mg "max" = none
  f_l_drawn_segments : ∃ fd, FunD K "_law_drawn_segments" "_law_drawn_segments" (defArgs s_l_drawn_segments) (defBody s_l_drawn_segments) (defScope s_l_drawn_segments) [] [] (He.ga K "_law_drawn_segments") fd
  g_l_drawn_segments : mg "_law_drawn_segments" = some (.ref (He.ga K "_law_drawn_segments"))
  b_sum : mg "sum" = none
  f_l_drawn_layout : ∃ fd, FunD K "_law_drawn_layout" "_law_drawn_layout" (defArgs s_l_drawn_layout) (defBody s_l_drawn_layout) (defScope s_l_drawn_layout) [] [] (He.ga K "_law_drawn_layout") fd
  g_l_drawn_layout : mg "_law_drawn_layout" = some (.ref (He.ga K "_law_drawn_layout"))
  f_l_metres : ∃ fd, FunD K "_law_metres" "_law_metres" (defArgs s_l_metres) (defBody s_l_metres) (defScope s_l_metres) [] [] (He.ga K "_law_metres") fd
  g_l_metres : mg "_law_metres" = some (.ref (He.ga K "_law_metres"))
  g_KINDS : mg "KINDS" = some (.ref (He.ga K "KINDS"))
  c_KINDS : GloOk K (He.ga K) mg "KINDS" (.tup [.str "coast", .str "lift", .str "brake"])
  c_MOST_LENGTH_layout : GloOk K (He.ga K) mg "MOST_LENGTH_layout" (.int 500)
  c_MOST_SLOPE : GloOk K (He.ga K) mg "MOST_SLOPE" (.int 100)
  g_InvalidLayout : mg "InvalidLayout" = some (.ref (He.ga K "InvalidLayout"))
  x_InvalidLayout : ExcF K mg (He.ga K) "InvalidLayout"
  c_MOST_TOTAL : GloOk K (He.ga K) mg "MOST_TOTAL" (.int 4000)
  c_MOST_BLOCKS : GloOk K (He.ga K) mg "MOST_BLOCKS" (.int 12)
  f_check_segments : ∃ fd, FunD K "check_segments" "check_segments" (defArgs s_check_segments) (defBody s_check_segments) (defScope s_check_segments) [] [] (He.ga K "check_segments") fd
  g_check_segments : mg "check_segments" = some (.ref (He.ga K "check_segments"))
  b_tuple : mg "tuple" = none
  cl_Layout : Cls K (He.ga K "Layout")
  na_Layout_segments : NoAttr K (He.ga K "Layout") "segments"
  na_Layout_metres : NoAttr K (He.ga K "Layout") "metres"
  na_Layout_begins : NoAttr K (He.ga K "Layout") "begins"
  na_Layout_brakes : NoAttr K (He.ga K "Layout") "brakes"
  na_Layout_heights : NoAttr K (He.ga K "Layout") "heights"
  f_Layout_init : ∃ fd, FunD K "__init__" "Layout.__init__" (defArgs s_Layout_init) (defBody s_Layout_init) (defScope s_Layout_init) [] [] (He.ma K (He.ga K "Layout") "__init__") fd
  g_Layout : mg "Layout" = some (.ref (He.ga K "Layout"))
  mk_Layout : Mk K (He.ga K "Layout") (He.ma K (He.ga K "Layout") "__init__")
  f_l_layout : ∃ fd, FunD K "_law_layout" "_law_layout" (defArgs s_l_layout) (defBody s_l_layout) (defScope s_l_layout) [] [] (He.ga K "_law_layout") fd
  g_l_layout : mg "_law_layout" = some (.ref (He.ga K "_law_layout"))
  c_MOST_LENGTH_train : GloOk K (He.ga K) mg "MOST_LENGTH_train" (.int 100)
  g_InvalidTrain : mg "InvalidTrain" = some (.ref (He.ga K "InvalidTrain"))
  x_InvalidTrain : ExcF K mg (He.ga K) "InvalidTrain"
  f_is_interval : ∃ fd, FunD K "is_interval" "is_interval" (defArgs s_is_interval) (defBody s_is_interval) (defScope s_is_interval) [] [] (He.ga K "is_interval") fd
  g_is_interval : mg "is_interval" = some (.ref (He.ga K "is_interval"))
  c_MOST_FRICTION : GloOk K (He.ga K) mg "MOST_FRICTION" (.int 100000)
  c_MOST_BRAKE : GloOk K (He.ga K) mg "MOST_BRAKE" (.int 1000000)
  c_MOST_ENERGY : GloOk K (He.ga K) mg "MOST_ENERGY" (.int 10000000)
  cl_Train : Cls K (He.ga K "Train")
  na_Train_length : NoAttr K (He.ga K "Train") "length"
  na_Train_friction : NoAttr K (He.ga K "Train") "friction"
  na_Train_brake : NoAttr K (He.ga K "Train") "brake"
  na_Train_lift : NoAttr K (He.ga K "Train") "lift"
  na_Train_drive : NoAttr K (He.ga K "Train") "drive"
  f_Train_init : ∃ fd, FunD K "__init__" "Train.__init__" (defArgs s_Train_init) (defBody s_Train_init) (defScope s_Train_init) [] [] (He.ma K (He.ga K "Train") "__init__") fd
  g_Train : mg "Train" = some (.ref (He.ga K "Train"))
  mk_Train : Mk K (He.ga K "Train") (He.ma K (He.ga K "Train") "__init__")
  f_l_train : ∃ fd, FunD K "_law_train" "_law_train" (defArgs s_l_train) (defBody s_l_train) (defScope s_l_train) [] [] (He.ga K "_law_train") fd
  g_l_train : mg "_law_train" = some (.ref (He.ga K "_law_train"))
  f_l_after : ∃ fd, FunD K "_law_after" "_law_after" (defArgs s_l_after) (defBody s_l_after) (defScope s_l_after) [] [] (He.ga K "_law_after") fd
  g_l_after : mg "_law_after" = some (.ref (He.ga K "_law_after"))
  f_l_rolled : ∃ fd, FunD K "_law_rolled" "_law_rolled" (defArgs s_l_rolled) (defBody s_l_rolled) (defScope s_l_rolled) [] [] (He.ga K "_law_rolled") fd
  g_l_rolled : mg "_law_rolled" = some (.ref (He.ga K "_law_rolled"))
  b_isinstance : mg "isinstance" = none
  b_bool : mg "bool" = none
  b_str : mg "str" = none
  b_list : mg "list" = none
  b_all : mg "all" = none
  f_l_like : ∃ fd, FunD K "_law_like" "_law_like" (defArgs s_l_like) (defBody s_l_like) (defScope s_l_like) [] [] (He.ga K "_law_like") fd
  g_l_like : mg "_law_like" = some (.ref (He.ga K "_law_like"))
  g_BadNumber : mg "BadNumber" = some (.ref (He.ga K "BadNumber"))
  x_BadNumber : ExcF K mg (He.ga K) "BadNumber"
  f_Layout_check_metre : ∃ fd, FunD K "check_metre" "Layout.check_metre" (defArgs s_Layout_check_metre) (defBody s_Layout_check_metre) (defScope s_Layout_check_metre) [] [] (He.ma K (He.ga K "Layout") "check_metre") fd
  me_Layout_check_metre : Meth K (He.ga K "Layout") "check_metre" (He.ma K (He.ga K "Layout") "check_metre")
  f_check_energy : ∃ fd, FunD K "check_energy" "check_energy" (defArgs s_check_energy) (defBody s_check_energy) (defScope s_check_energy) [] [] (He.ga K "check_energy") fd
  g_check_energy : mg "check_energy" = some (.ref (He.ga K "check_energy"))
  g_NotFitting : mg "NotFitting" = some (.ref (He.ga K "NotFitting"))
  x_NotFitting : ExcF K mg (He.ga K) "NotFitting"
  b_zip : mg "zip" = none
  f_Layout_metre : ∃ fd, FunD K "metre" "Layout.metre" (defArgs s_Layout_metre) (defBody s_Layout_metre) (defScope s_Layout_metre) [] [] (He.ma K (He.ga K "Layout") "metre") fd
  me_Layout_metre : Meth K (He.ga K "Layout") "metre" (He.ma K (He.ga K "Layout") "metre")
  c_FALL : GloOk K (He.ga K) mg "FALL" (.int 1962)
  f_after_metre : ∃ fd, FunD K "after_metre" "after_metre" (defArgs s_after_metre) (defBody s_after_metre) (defScope s_after_metre) [] [] (He.ga K "after_metre") fd
  g_after_metre : mg "after_metre" = some (.ref (He.ga K "after_metre"))
  f_Layout_total : ∃ fd, FunD K "total" "Layout.total" (defArgs s_Layout_total) (defBody s_Layout_total) (defScope s_Layout_total) [] [] (He.ma K (He.ga K "Layout") "total") fd
  me_Layout_total : Meth K (He.ga K "Layout") "total" (He.ma K (He.ga K "Layout") "total")
  f_roll : ∃ fd, FunD K "roll" "roll" (defArgs s_roll) (defBody s_roll) (defScope s_roll) [] [] (He.ga K "roll") fd
  g_roll : mg "roll" = some (.ref (He.ga K "roll"))
  e_NotFitting_BadNumber : PySem.W.exmOne K (.ref (He.ga K "NotFitting")) (.ref (He.ga K "BadNumber")) = some false
  e_NotFitting_NotFitting : PySem.W.exmOne K (.ref (He.ga K "NotFitting")) (.ref (He.ga K "NotFitting")) = some true
  e_InvalidLayout_BadNumber : PySem.W.exmOne K (.ref (He.ga K "InvalidLayout")) (.ref (He.ga K "BadNumber")) = some false
  e_InvalidLayout_NotFitting : PySem.W.exmOne K (.ref (He.ga K "InvalidLayout")) (.ref (He.ga K "NotFitting")) = some false
  e_InvalidTrain_BadNumber : PySem.W.exmOne K (.ref (He.ga K "InvalidTrain")) (.ref (He.ga K "BadNumber")) = some false
  e_InvalidTrain_NotFitting : PySem.W.exmOne K (.ref (He.ga K "InvalidTrain")) (.ref (He.ga K "NotFitting")) = some false
  e_BadNumber_BadNumber : PySem.W.exmOne K (.ref (He.ga K "BadNumber")) (.ref (He.ga K "BadNumber")) = some true
  e_BadNumber_NotFitting : PySem.W.exmOne K (.ref (He.ga K "BadNumber")) (.ref (He.ga K "NotFitting")) = some false
  e_CoasterError_BadNumber : PySem.W.exmOne K (.ref (He.ga K "CoasterError")) (.ref (He.ga K "BadNumber")) = some false
  g_CoasterError : mg "CoasterError" = some (.ref (He.ga K "CoasterError"))
  e_CoasterError_NotFitting : PySem.W.exmOne K (.ref (He.ga K "CoasterError")) (.ref (He.ga K "NotFitting")) = some false
  f_l_told : ∃ fd, FunD K "_law_told" "_law_told" (defArgs s_l_told) (defBody s_l_told) (defScope s_l_told) [] [] (He.ga K "_law_told") fd
  g_l_told : mg "_law_told" = some (.ref (He.ga K "_law_told"))
  b_dict : mg "dict" = none
  f_l_equal : ∃ fd, FunD K "_law_equal" "_law_equal" (defArgs s_l_equal) (defBody s_l_equal) (defScope s_l_equal) [] [] (He.ga K "_law_equal") fd
  g_l_equal : mg "_law_equal" = some (.ref (He.ga K "_law_equal"))
  f_law : ∃ fd, FunD K "law" "law" (defArgs s_law) (defBody s_law) (defScope s_law) [] [] (He.ga K "law") fd
  g_law : mg "law" = some (.ref (He.ga K "law"))
theorem Txt.exm {K : PySem.W.Frag} {mg : Str → Option Value} (T : Txt K mg) : ExmF K (He.ga K) exmT := by
  intro r c b h
  have hm : ((r, c), b) ∈ exmL := Z.lookup_mem h
  simp only [exmL, List.mem_cons, Prod.mk.injEq, List.not_mem_nil, or_false] at hm
  rcases hm with ⟨⟨rfl, rfl⟩, rfl⟩ | ⟨⟨rfl, rfl⟩, rfl⟩ | ⟨⟨rfl, rfl⟩, rfl⟩ | ⟨⟨rfl, rfl⟩, rfl⟩ | ⟨⟨rfl, rfl⟩, rfl⟩ | ⟨⟨rfl, rfl⟩, rfl⟩ | ⟨⟨rfl, rfl⟩, rfl⟩ | ⟨⟨rfl, rfl⟩, rfl⟩ | ⟨⟨rfl, rfl⟩, rfl⟩ | ⟨⟨rfl, rfl⟩, rfl⟩
  · exact T.e_NotFitting_BadNumber
  · exact T.e_NotFitting_NotFitting
  · exact T.e_InvalidLayout_BadNumber
  · exact T.e_InvalidLayout_NotFitting
  · exact T.e_InvalidTrain_BadNumber
  · exact T.e_InvalidTrain_NotFitting
  · exact T.e_BadNumber_BadNumber
  · exact T.e_BadNumber_NotFitting
  · exact T.e_CoasterError_BadNumber
  · exact T.e_CoasterError_NotFitting
section
variable {P0 : Program} {w : World} {K : PySem.W.Frag} {mg : Str → Option Value} {base : Heap}
/-! _law_drawn_train -/
theorem ok_l_drawn_train (T : Txt K mg) : CallF P0 w K mg base (He.ga K) "_law_drawn_train" 1 1 m_l_drawn_train := by
  obtain ⟨fd, F⟩ := T.f_l_drawn_train
  exact ⟨_, fd, ["draws"], fn_pure F sc_l_drawn_train (fun cdv A s H E o hr tk po =>
    (zss_cons (zs_set 1 (pz_mod (pz_ix (pz_var 0) pz_int) pz_int) sc_l_drawn_train.nd)
    (zss_cons (zs_set 2 (pz_add pz_int (pz_mul pz_int (pz_ix (pz_var 0) pz_int))) sc_l_drawn_train.nd)
    (zss_one (zs_ret (pz_lstP (za_cons (pz_add pz_int (pz_mod (pz_ix (pz_var 0) pz_int) pz_int)) (za_cons (pz_tup (za_cons (pz_var 1) (za_cons (pz_add (pz_var 1) (pz_mod (pz_ix (pz_var 0) pz_int) pz_int)) za_nil))) (za_cons (pz_tup (za_cons (pz_var 2) (za_cons (pz_add (pz_var 2) (pz_mul pz_int (pz_ix (pz_var 0) pz_int))) za_nil))) (za_cons (pz_add pz_int (pz_mul pz_int (pz_ix (pz_var 0) pz_int))) (za_cons (pz_add pz_int (pz_mul pz_int (pz_ix (pz_var 0) pz_int))) za_nil))))))))))), T.g_l_drawn_train, F.kp, F.bindsN (ps := ["draws"]) fun _ _ _ _ _ _ us hl => match us, hl with | [_], _ => rfl⟩
/-! _law_draws -/
theorem ok_l_draws (T : Txt K mg) : CallF P0 w K mg base (He.ga K) "_law_draws" 2 1 m_l_draws := by
  obtain ⟨fd, F⟩ := T.f_l_draws
  exact ⟨_, fd, ["cell", "count"], fn_pure F sc_l_draws (fun cdv A s H E o hr tk po =>
    (zss_cons (zs_set 2 (pz_lst za_nil) sc_l_draws.nd)
    (zss_cons (zs_set 3 (pz_var 0) sc_l_draws.nd)
    (zss_cons (zs_for po rfl (zi_range1 (by rfl) T.b_range (za_cons (pz_var 1) za_nil)) (zg_name 4 sc_l_draws.nd) (zss_one (zs_if (zt_bool (zw_and (zt_cmp op_ge oz_ge (pz_var 0) (pz_pow pz_int pz_int) (nomark _)) (zw_and1 (zt_cmp op_gt oz_gt (pz_var 3) pz_int (nomark _))))) (zss_cons (zs_expr (pz_bm mz_append (pe_bm PySem.F.plainAttrs_list PySem.F.slot_list_append PySem.F.type_list_append mt_append (pz_var 2) (za_cons (pz_mod (pz_int1 (by rfl) T.b_int (za_cons (pz_var 3) za_nil)) pz_int) za_nil))))
    (zss_one (zs_set 3 (pz_fdiv (pz_var 3) pz_int) sc_l_draws.nd))) (zss_cons (zs_set 5 (pz_mod (pz_int1 (by rfl) T.b_int (za_cons (pz_add (pz_mul (pz_var 0) pz_int) (pz_mul (pz_add (pz_var 4) pz_int) pz_int)) za_nil)) pz_int) sc_l_draws.nd)
    (zss_cons (zs_set 5 (pz_mod (pz_int1 (by rfl) T.b_int (za_cons (pz_add (pz_add (pz_mul (pz_var 5) (pz_var 5)) (pz_mul (pz_var 5) pz_int)) (pz_mul (pz_var 4) pz_int)) za_nil)) pz_int) sc_l_draws.nd)
    (zss_cons (zs_set 5 (pz_mod (pz_int1 (by rfl) T.b_int (za_cons (pz_add (pz_add (pz_mul (pz_var 5) (pz_var 5)) (pz_var 0)) (pz_mul pz_int (pz_var 4))) za_nil)) pz_int) sc_l_draws.nd)
    (zss_one (zs_expr (pz_bm mz_append (pe_bm PySem.F.plainAttrs_list PySem.F.slot_list_append PySem.F.type_list_append mt_append (pz_var 2) (za_cons (pz_mod (pz_fdiv (pz_var 5) pz_int) pz_int) za_nil)))))))))))
    (zss_one (zs_ret (pz_var 2))))))), T.g_l_draws, F.kp, F.bindsN (ps := ["cell", "count"]) fun _ _ _ _ _ _ us hl => match us, hl with | [_, _], _ => rfl⟩
/-! _law_cell -/
theorem ok_l_cell (T : Txt K mg) : CallF P0 w K mg base (He.ga K) "_law_cell" 2 1 m_l_cell := by
  obtain ⟨fd, F⟩ := T.f_l_cell
  exact ⟨_, fd, ["script", "k"], fn_pure F sc_l_cell (fun cdv A s H E o hr tk po =>
    (zss_cons (zs_if (zt_cmp op_lt oz_lt (pz_var 1) (pz_len (by rfl) T.b_len (za_cons (pz_var 0) za_nil)) (nomark _)) (zss_one (zs_ret (pz_abs (by rfl) T.b_abs (za_cons (pz_int1 (by rfl) T.b_int (za_cons (pz_ix (pz_var 0) (pz_var 1)) za_nil)) za_nil)))) zss_nil)
    (zss_one (zs_ret pz_int)))), T.g_l_cell, F.kp, F.bindsN (ps := ["script", "k"]) fun _ _ _ _ _ _ us hl => match us, hl with | [_, _], _ => rfl⟩
/-! _law_drawn_segments -/
theorem ok_l_drawn_segments (T : Txt K mg) : CallF P0 w K mg base (He.ga K) "_law_drawn_segments" 2 1 m_l_drawn_segments := by
  obtain ⟨fd, F⟩ := T.f_l_drawn_segments
  exact ⟨_, fd, ["draws", "most"], fn_pure F sc_l_drawn_segments (fun cdv A s H E o hr tk po =>
    (zss_cons (zs_set 2 (pz_add pz_int (pz_mod (pz_ix (pz_var 0) pz_int) pz_int)) sc_l_drawn_segments.nd)
    (zss_cons (zs_set 3 (pz_lst za_nil) sc_l_drawn_segments.nd)
    (zss_cons (zs_set 4 pz_int sc_l_drawn_segments.nd)
    (zss_cons (zs_for po rfl (zi_range1 (by rfl) T.b_range (za_cons (pz_var 2) za_nil)) (zg_name 5 sc_l_drawn_segments.nd) (zss_cons (zs_for po rfl (zi_range1 (by rfl) T.b_range (za_cons (pz_mod (pz_ix (pz_var 0) (pz_add pz_int (pz_var 5))) pz_int) za_nil)) (zg_name 6 sc_l_drawn_segments.nd) (zss_cons (zs_set 7 (pz_ix (pz_var 0) (pz_add (pz_add pz_int (pz_mul pz_int (pz_var 5))) (pz_var 6))) sc_l_drawn_segments.nd)
    (zss_cons (zs_set 8 (pz_ix (pz_lstP (za_cons pz_str (za_cons pz_str (za_cons pz_str za_nil)))) (pz_mod (pz_var 7) pz_int)) sc_l_drawn_segments.nd)
    (zss_cons (zs_set 9 (pz_sub (pz_mod (pz_fdiv (pz_var 7) pz_int) pz_int) pz_int) sc_l_drawn_segments.nd)
    (zss_cons (zs_set 10 (pz_add pz_int (pz_mod (pz_fdiv (pz_var 7) pz_int) (pz_var 1))) sc_l_drawn_segments.nd)
    (zss_cons (zs_expr (pz_bm mz_append (pe_bm PySem.F.plainAttrs_list PySem.F.slot_list_append PySem.F.type_list_append mt_append (pz_var 3) (za_cons (pz_tup (za_cons (pz_var 8) (za_cons (pz_var 10) (za_cons (pz_var 9) za_nil)))) za_nil))))
    (zss_one (zs_set 4 (pz_add (pz_var 4) (pz_mul (pz_var 10) (pz_var 9))) sc_l_drawn_segments.nd))))))))
    (zss_cons (zs_set 11 (pz_sub (pz_mod (pz_ix (pz_var 0) (pz_add pz_int (pz_var 5))) pz_int) pz_int) sc_l_drawn_segments.nd)
    (zss_cons (zs_expr (pz_bm mz_append (pe_bm PySem.F.plainAttrs_list PySem.F.slot_list_append PySem.F.type_list_append mt_append (pz_var 3) (za_cons (pz_tup (za_cons pz_str (za_cons (pz_add pz_int (pz_mod (pz_ix (pz_var 0) (pz_add pz_int (pz_var 5))) pz_int)) (za_cons (pz_var 11) za_nil)))) za_nil))))
    (zss_one (zs_set 4 (pz_add (pz_var 4) (pz_mul (pz_ix (pz_ix (pz_var 3) (pz_neg pz_int)) pz_int) (pz_var 11))) sc_l_drawn_segments.nd))))))
    (zss_cons (zs_expr (pz_bm mz_insert (pe_bm PySem.F.plainAttrs_list PySem.F.slot_list_insert PySem.F.type_list_insert mt_insert (pz_var 3) (za_cons (pz_mod (pz_ix (pz_var 0) pz_int) (pz_len (by rfl) T.b_len (za_cons (pz_var 3) za_nil))) (za_cons (pz_tup (za_cons pz_str (za_cons (pz_ix (pz_lstP (za_cons pz_int (za_cons pz_int (za_cons pz_int (za_cons pz_int (za_cons pz_int za_nil)))))) (pz_mod (pz_ix (pz_var 0) pz_int) pz_int)) (za_cons pz_int za_nil)))) za_nil)))))
    (zss_cons (zs_set 12 (pz_neg (pz_var 4)) sc_l_drawn_segments.nd)
    (zss_cons (zs_for po rfl (zi_range1 (by rfl) T.b_range (za_cons pz_int za_nil)) (zg_name 6 sc_l_drawn_segments.nd) (zss_one (zs_if (zt_ne hr.units (pz_var 12) pz_int) (zss_cons (zs_set 9 (pz_max2 rfl (by rfl) T.b_max (za_cons (pz_neg pz_int) (za_cons (pz_min2 rfl (by rfl) T.b_min (za_cons pz_int (za_cons (pz_var 12) za_nil))) za_nil))) sc_l_drawn_segments.nd)
    (zss_cons (zs_expr (pz_bm mz_insert (pe_bm PySem.F.plainAttrs_list PySem.F.slot_list_insert PySem.F.type_list_insert mt_insert (pz_var 3) (za_cons pz_int (za_cons (pz_tup (za_cons (pz_ix (pz_lstP (za_cons (pz_ix (pz_tup (za_cons pz_str (za_cons pz_str za_nil))) (pz_int1 (by rfl) T.b_int (za_cons (pz_cmp op_gt oz_gt (pz_var 9) pz_int (nomark _)) za_nil))) (za_cons pz_str za_nil))) (pz_mod (pz_ix (pz_var 0) pz_int) pz_int)) (za_cons pz_int (za_cons (pz_var 9) za_nil)))) za_nil)))))
    (zss_one (zs_set 12 (pz_sub (pz_var 12) (pz_var 9)) sc_l_drawn_segments.nd)))) zss_nil)))
    (zss_one (zs_ret (pz_var 3))))))))))), T.g_l_drawn_segments, F.kp, F.bindsN (ps := ["draws", "most"]) fun _ _ _ _ _ _ us hl => match us, hl with | [_, _], _ => rfl⟩
/-! _law_drawn_layout -/
theorem ok_l_drawn_layout (T : Txt K mg) : CallF P0 w K mg base (He.ga K) "_law_drawn_layout" 1 2 m_l_drawn_layout := by
  obtain ⟨fd, F⟩ := T.f_l_drawn_layout
  exact ⟨_, fd, ["draws"], fn_pure F sc_l_drawn_layout (fun cdv A s H E o hr tk po =>
    (zss_cons (zs_set 1 (pz_callF (ok_l_drawn_segments T) hr (by omega) (by rfl) tk (za_cons (pz_var 0) (za_cons pz_int za_nil))) sc_l_drawn_layout.nd)
    (zss_cons (zs_set 2 (pz_sum rfl (by rfl) T.b_sum (za_cons (pz_lc (own := [("kind", 3), ("length", 4), ("slope", 5)]) rfl sc_l_drawn_layout.nd (zi_seq (pz_var 1)) (blkOk_by (by kernel_rfl)) (fun _ _ _ _ _ => (zg_tup rfl (zgs_cons (zg_name 3 sc_l_drawn_layout.nd) (zgs_cons (zg_name 4 sc_l_drawn_layout.nd) (zgs_cons (zg_name 5 sc_l_drawn_layout.nd) zgs_nil))))) (fun _ _ _ _ _ => zts_nil) (fun _ _ _ _ _ => (pz_mul (pz_var 4) (pz_var 5))) (by decide)) za_nil)) sc_l_drawn_layout.nd)
    (zss_cons (zs_if (zt_ne hr.units (pz_var 2) pz_int) (zss_one (zs_set 1 (pz_lstP (za_cons (pz_tup (za_cons pz_str (za_cons pz_int (za_cons pz_int za_nil)))) (za_cons (pz_tup (za_cons pz_str (za_cons pz_int (za_cons (pz_neg pz_int) za_nil)))) (za_cons (pz_tup (za_cons pz_str (za_cons pz_int (za_cons pz_int za_nil)))) (za_cons (pz_tup (za_cons pz_str (za_cons pz_int (za_cons pz_int za_nil)))) (za_cons (pz_tup (za_cons pz_str (za_cons pz_int (za_cons pz_int za_nil)))) za_nil)))))) sc_l_drawn_layout.nd)) zss_nil)
    (zss_one (zs_ret (pz_var 1))))))), T.g_l_drawn_layout, F.kp, F.bindsN (ps := ["draws"]) fun _ _ _ _ _ _ us hl => match us, hl with | [_], _ => rfl⟩
/-! _law_metres -/
theorem ok_l_metres (T : Txt K mg) : CallF P0 w K mg base (He.ga K) "_law_metres" 1 1 m_l_metres := by
  obtain ⟨fd, F⟩ := T.f_l_metres
  exact ⟨_, fd, ["rows"], fn_pure F sc_l_metres (fun cdv A s H E o hr tk po =>
    (zss_cons (zs_set 1 (pz_lst za_nil) sc_l_metres.nd)
    (zss_cons (zs_set 2 pz_int sc_l_metres.nd)
    (zss_cons (zs_for po rfl (zi_seq (pz_var 0)) (zg_tup rfl (zgs_cons (zg_name 3 sc_l_metres.nd) (zgs_cons (zg_name 4 sc_l_metres.nd) (zgs_cons (zg_name 5 sc_l_metres.nd) zgs_nil)))) (zss_cons (zs_for po rfl (zi_range1 (by rfl) T.b_range (za_cons (pz_var 4) za_nil)) (zg_name 6 sc_l_metres.nd) (zss_one (zs_expr (pz_bm mz_append (pe_bm PySem.F.plainAttrs_list PySem.F.slot_list_append PySem.F.type_list_append mt_append (pz_var 1) (za_cons (pz_tup (za_cons (pz_var 3) (za_cons (pz_var 5) (za_cons (pz_var 2) za_nil)))) za_nil))))))
    (zss_one (zs_set 2 (pz_add (pz_var 2) (pz_int1 (by rfl) T.b_int (za_cons (pz_eq hr.units (pz_var 3) pz_str) za_nil))) sc_l_metres.nd))))
    (zss_one (zs_ret (pz_var 1))))))), T.g_l_metres, F.kp, F.bindsN (ps := ["rows"]) fun _ _ _ _ _ _ us hl => match us, hl with | [_], _ => rfl⟩
/-! check_segments -/
theorem ok_check_segments (T : Txt K mg) : CallF P0 w K mg base (He.ga K) "check_segments" 1 1 m_check_segments := by
  obtain ⟨fd, F⟩ := T.f_check_segments
  exact ⟨_, fd, ["segments"], fn_pure F sc_check_segments (fun cdv A s H E o hr tk po =>
    (zss_cons (zs_for po rfl (zi_seq (pz_var 0)) (zg_tup rfl (zgs_cons (zg_name 1 sc_check_segments.nd) (zgs_cons (zg_name 2 sc_check_segments.nd) (zgs_cons (zg_name 3 sc_check_segments.nd) zgs_nil)))) (zss_one (zs_if (zt_bool (zw_or (zt_cmp or_notin (oz_in (neg := true)) (pz_var 1) (pz_glob (by rfl) T.c_KINDS) rfl) (zw_or (zt_not (zt_chain op_le oz_le op_le oz_le pz_int (pz_var 2) (pz_glob (by rfl) T.c_MOST_LENGTH_layout))) (zw_or1 (zt_not (zt_chain op_le oz_le op_le oz_le (pz_neg (pz_glob (by rfl) T.c_MOST_SLOPE)) (pz_var 3) (pz_glob (by rfl) T.c_MOST_SLOPE))))))) (zss_one (zs_raiseF T.x_InvalidLayout rfl tk rfl)) zss_nil)))
    (zss_cons (zs_if (zt_cmp op_gt oz_gt (pz_sum rfl (by rfl) T.b_sum (za_cons (pz_lc (own := [("_", 4), ("length", 2)]) rfl sc_check_segments.nd (zi_seq (pz_var 0)) (blkOk_by (by kernel_rfl)) (fun _ _ _ _ _ => (zg_tup rfl (zgs_cons (zg_name 4 sc_check_segments.nd) (zgs_cons (zg_name 2 sc_check_segments.nd) (zgs_cons (zg_name 4 sc_check_segments.nd) zgs_nil))))) (fun _ _ _ _ _ => zts_nil) (fun _ _ _ _ _ => (pz_var 2)) (by decide)) za_nil)) (pz_glob (by rfl) T.c_MOST_TOTAL) (nomark _)) (zss_one (zs_raiseF T.x_InvalidLayout rfl tk rfl)) zss_nil)
    (zss_cons (zs_if (zt_ne hr.units (pz_sum rfl (by rfl) T.b_sum (za_cons (pz_lc (own := [("_", 4), ("length", 2), ("slope", 3)]) rfl sc_check_segments.nd (zi_seq (pz_var 0)) (blkOk_by (by kernel_rfl)) (fun _ _ _ _ _ => (zg_tup rfl (zgs_cons (zg_name 4 sc_check_segments.nd) (zgs_cons (zg_name 2 sc_check_segments.nd) (zgs_cons (zg_name 3 sc_check_segments.nd) zgs_nil))))) (fun _ _ _ _ _ => zts_nil) (fun _ _ _ _ _ => (pz_mul (pz_var 2) (pz_var 3))) (by decide)) za_nil)) pz_int) (zss_one (zs_raiseF T.x_InvalidLayout rfl tk rfl)) zss_nil)
    (zss_cons (zs_if (zt_bool (zw_or (zt_eq hr.units (pz_len (by rfl) T.b_len (za_cons (pz_var 0) za_nil)) pz_int) (zw_or1 (zt_ne hr.units (pz_ix (pz_ix (pz_var 0) (pz_neg pz_int)) pz_int) pz_str)))) (zss_one (zs_raiseF T.x_InvalidLayout rfl tk rfl)) zss_nil)
    (zss_one (zs_if (zt_not (zt_chain op_le oz_le op_le oz_le pz_int (pz_len (by rfl) T.b_len (za_cons (pz_lc (own := [("kind", 1), ("_", 4)]) rfl sc_check_segments.nd (zi_seq (pz_var 0)) (blkOk_by (by kernel_rfl)) (fun _ _ _ _ _ => (zg_tup rfl (zgs_cons (zg_name 1 sc_check_segments.nd) (zgs_cons (zg_name 4 sc_check_segments.nd) (zgs_cons (zg_name 4 sc_check_segments.nd) zgs_nil))))) (fun _ _ _ _ _ => (zts_one (zt_eq hr.units (pz_var 1) pz_str))) (fun _ _ _ _ _ => (pz_var 1)) (by decide)) za_nil)) (pz_glob (by rfl) T.c_MOST_BLOCKS))) (zss_one (zs_raiseF T.x_InvalidLayout rfl tk rfl)) zss_nil))))))), T.g_check_segments, F.kp, F.bindsN (ps := ["segments"]) fun _ _ _ _ _ _ us hl => match us, hl with | [_], _ => rfl⟩
/-! Layout.__init__ -/
theorem ok_Layout_init (T : Txt K mg) : NewF P0 w K mg base (He.ga K) "Layout" 1 2 m_Layout_init := by
  obtain ⟨fd, F⟩ := T.f_Layout_init
  exact ⟨_, fd, ["self", "segments"], fn_init (n := 1) F sc_Layout_init rfl rfl (fun cdv A s H E o hr tk po =>
    (zss_cons (zs_expr (pz_callF (ok_check_segments T) hr (by omega) (by rfl) tk (za_cons (pz_var 1) za_nil)))
    (zss_cons (zs_fld T.cl_Layout T.na_Layout_segments (pz_var 0) (pz_tuple (by rfl) T.b_tuple (za_cons (pz_var 1) za_nil)))
    (zss_cons (zs_fld T.cl_Layout T.na_Layout_metres (pz_var 0) (pz_lst za_nil))
    (zss_cons (zs_fld T.cl_Layout T.na_Layout_begins (pz_var 0) (pz_lst (za_cons pz_int za_nil)))
    (zss_cons (zs_fld T.cl_Layout T.na_Layout_brakes (pz_var 0) (pz_lst za_nil))
    (zss_cons (zs_fld T.cl_Layout T.na_Layout_heights (pz_var 0) (pz_lst (za_cons pz_int za_nil)))
    (zss_one (zs_for po rfl (zi_seq (pz_var 1)) (zg_tup rfl (zgs_cons (zg_name 2 sc_Layout_init.nd) (zgs_cons (zg_name 3 sc_Layout_init.nd) (zgs_cons (zg_name 4 sc_Layout_init.nd) zgs_nil)))) (zss_cons (zs_if (zt_eq hr.units (pz_var 2) pz_str) (zss_one (zs_expr (pz_bm mz_append (pe_bm PySem.F.plainAttrs_list PySem.F.slot_list_append PySem.F.type_list_append mt_append (pz_fld T.cl_Layout T.na_Layout_brakes (pz_var 0)) (za_cons (pz_len (by rfl) T.b_len (za_cons (pz_fld T.cl_Layout T.na_Layout_metres (pz_var 0)) za_nil)) za_nil))))) zss_nil)
    (zss_cons (zs_set 5 (pz_sub (pz_len (by rfl) T.b_len (za_cons (pz_fld T.cl_Layout T.na_Layout_begins (pz_var 0)) za_nil)) pz_int) sc_Layout_init.nd)
    (zss_cons (zs_for po rfl (zi_range1 (by rfl) T.b_range (za_cons (pz_var 3) za_nil)) (zg_name 6 sc_Layout_init.nd) (zss_cons (zs_expr (pz_bm mz_append (pe_bm PySem.F.plainAttrs_list PySem.F.slot_list_append PySem.F.type_list_append mt_append (pz_fld T.cl_Layout T.na_Layout_metres (pz_var 0)) (za_cons (pz_tup (za_cons (pz_var 2) (za_cons (pz_var 4) (za_cons (pz_var 5) za_nil)))) za_nil))))
    (zss_one (zs_expr (pz_bm mz_append (pe_bm PySem.F.plainAttrs_list PySem.F.slot_list_append PySem.F.type_list_append mt_append (pz_fld T.cl_Layout T.na_Layout_heights (pz_var 0)) (za_cons (pz_add (pz_ix (pz_fld T.cl_Layout T.na_Layout_heights (pz_var 0)) (pz_neg pz_int)) (pz_var 4)) za_nil)))))))
    (zss_one (zs_if (zt_eq hr.units (pz_var 2) pz_str) (zss_one (zs_expr (pz_bm mz_append (pe_bm PySem.F.plainAttrs_list PySem.F.slot_list_append PySem.F.type_list_append mt_append (pz_fld T.cl_Layout T.na_Layout_begins (pz_var 0)) (za_cons (pz_len (by rfl) T.b_len (za_cons (pz_fld T.cl_Layout T.na_Layout_metres (pz_var 0)) za_nil)) za_nil))))) zss_nil)))))))))))))), T.mk_Layout, T.g_Layout, F.bindsN (ps := ["self", "segments"]) fun _ _ _ _ _ _ us hl => match us, hl with | [_, _], _ => rfl⟩
/-! _law_layout -/
theorem ok_l_layout (T : Txt K mg) : CallF P0 w K mg base (He.ga K) "_law_layout" 1 4 m_l_layout := by
  obtain ⟨fd, F⟩ := T.f_l_layout
  exact ⟨_, fd, ["rows"], fn_pure F sc_l_layout (fun cdv A s H E o hr tk po =>
    (zss_one (zs_ret (pz_newF (ok_Layout_init T) hr (by omega) (by rfl) tk (za_cons (pz_lc (own := [("row", 1)]) rfl sc_l_layout.nd (zi_seq (pz_var 0)) (blkOk_by (by kernel_rfl)) (fun _ _ _ _ _ => (zg_name 1 sc_l_layout.nd)) (fun _ _ _ _ _ => zts_nil) (fun _ _ _ _ _ => (pz_var 1)) (by decide)) za_nil))))), T.g_l_layout, F.kp, F.bindsN (ps := ["rows"]) fun _ _ _ _ _ _ us hl => match us, hl with | [_], _ => rfl⟩
/-! is_interval -/
theorem ok_is_interval (T : Txt K mg) : CallF P0 w K mg base (He.ga K) "is_interval" 1 1 m_is_interval := by
  obtain ⟨fd, F⟩ := T.f_is_interval
  exact ⟨_, fd, ["pair"], fn_pure F sc_is_interval (fun cdv A s H E o hr tk po =>
    (zss_one (zs_ret (pz_and (pz_eq hr.units (pz_len (by rfl) T.b_len (za_cons (pz_var 0) za_nil)) pz_int) (pz_one (pz_cmp op_le oz_le (pz_ix (pz_var 0) pz_int) (pz_ix (pz_var 0) pz_int) (nomark _))))))), T.g_is_interval, F.kp, F.bindsN (ps := ["pair"]) fun _ _ _ _ _ _ us hl => match us, hl with | [_], _ => rfl⟩
/-! Train.__init__ -/
theorem ok_Train_init (T : Txt K mg) : NewF P0 w K mg base (He.ga K) "Train" 5 2 m_Train_init := by
  obtain ⟨fd, F⟩ := T.f_Train_init
  exact ⟨_, fd, ["self", "length", "friction", "brake", "lift", "drive"], fn_init (n := 5) F sc_Train_init rfl rfl (fun cdv A s H E o hr tk po =>
    (zss_cons (zs_if (zt_not (zt_chain op_le oz_le op_le oz_le pz_int (pz_var 1) (pz_glob (by rfl) T.c_MOST_LENGTH_train))) (zss_one (zs_raiseF T.x_InvalidTrain rfl tk rfl)) zss_nil)
    (zss_cons (zs_if (zt_bool (zw_or (zt_not (zt_val (pz_callF (ok_is_interval T) hr (by omega) (by rfl) tk (za_cons (pz_var 2) za_nil)))) (zw_or (zt_cmp op_lt oz_lt (pz_ix (pz_var 2) pz_int) pz_int (nomark _)) (zw_or1 (zt_cmp op_gt oz_gt (pz_ix (pz_var 2) pz_int) (pz_glob (by rfl) T.c_MOST_FRICTION) (nomark _)))))) (zss_one (zs_raiseF T.x_InvalidTrain rfl tk rfl)) zss_nil)
    (zss_cons (zs_if (zt_bool (zw_or (zt_not (zt_val (pz_callF (ok_is_interval T) hr (by omega) (by rfl) tk (za_cons (pz_var 3) za_nil)))) (zw_or (zt_cmp op_lt oz_lt (pz_ix (pz_var 3) pz_int) pz_int (nomark _)) (zw_or1 (zt_cmp op_gt oz_gt (pz_ix (pz_var 3) pz_int) (pz_glob (by rfl) T.c_MOST_BRAKE) (nomark _)))))) (zss_one (zs_raiseF T.x_InvalidTrain rfl tk rfl)) zss_nil)
    (zss_cons (zs_if (zt_bool (zw_or (zt_not (zt_chain op_le oz_le op_le oz_le pz_int (pz_var 4) (pz_glob (by rfl) T.c_MOST_ENERGY))) (zw_or1 (zt_not (zt_chain op_le oz_le op_le oz_le pz_int (pz_var 5) (pz_glob (by rfl) T.c_MOST_ENERGY)))))) (zss_one (zs_raiseF T.x_InvalidTrain rfl tk rfl)) zss_nil)
    (zss_cons (zs_fld T.cl_Train T.na_Train_length (pz_var 0) (pz_var 1))
    (zss_cons (zs_fld T.cl_Train T.na_Train_friction (pz_var 0) (pz_var 2))
    (zss_cons (zs_fld T.cl_Train T.na_Train_brake (pz_var 0) (pz_var 3))
    (zss_cons (zs_fld T.cl_Train T.na_Train_lift (pz_var 0) (pz_var 4))
    (zss_one (zs_fld T.cl_Train T.na_Train_drive (pz_var 0) (pz_var 5)))))))))))), T.mk_Train, T.g_Train, F.bindsN (ps := ["self", "length", "friction", "brake", "lift", "drive"]) fun _ _ _ _ _ _ us hl => match us, hl with | [_, _, _, _, _, _], _ => rfl⟩
/-! _law_train -/
theorem ok_l_train (T : Txt K mg) : CallF P0 w K mg base (He.ga K) "_law_train" 1 4 m_l_train := by
  obtain ⟨fd, F⟩ := T.f_l_train
  exact ⟨_, fd, ["data"], fn_pure F sc_l_train (fun cdv A s H E o hr tk po =>
    (zss_one (zs_ret (pz_newF (ok_Train_init T) hr (by omega) (by rfl) tk (za_cons (pz_ix (pz_var 0) pz_int) (za_cons (pz_ix (pz_var 0) pz_int) (za_cons (pz_ix (pz_var 0) pz_int) (za_cons (pz_ix (pz_var 0) pz_int) (za_cons (pz_ix (pz_var 0) pz_int) za_nil))))))))), T.g_l_train, F.kp, F.bindsN (ps := ["data"]) fun _ _ _ _ _ _ us hl => match us, hl with | [_], _ => rfl⟩
/-! _law_after -/
theorem ok_l_after (T : Txt K mg) : CallF P0 w K mg base (He.ga K) "_law_after" 5 1 m_l_after := by
  obtain ⟨fd, F⟩ := T.f_l_after
  exact ⟨_, fd, ["metre", "data", "energy", "friction", "strength"], fn_pure F sc_l_after (fun cdv A s H E o hr tk po =>
    (zss_cons (zs_asgT (pz_var 0) (zg_tup rfl (zgs_cons (zg_name 5 sc_l_after.nd) (zgs_cons (zg_name 6 sc_l_after.nd) (zgs_cons (zg_name 7 sc_l_after.nd) zgs_nil)))))
    (zss_cons (zs_set 8 (pz_sub (pz_sub (pz_var 2) (pz_mul pz_int (pz_var 6))) (pz_var 3)) sc_l_after.nd)
    (zss_cons (zs_if (zt_eq hr.units (pz_var 5) pz_str) (zss_one (zs_ret (pz_max2 rfl (by rfl) T.b_max (za_cons (pz_ix (pz_var 1) pz_int) (za_cons (pz_var 8) za_nil))))) zss_nil)
    (zss_cons (zs_if (zt_bool (zw_and (zt_eq hr.units (pz_var 5) pz_str) (zw_and1 (zt_cmp op_isZ oz_is (pz_var 4) pz_non (nomark _))))) (zss_one (zs_ret (pz_max2 rfl (by rfl) T.b_max (za_cons (pz_ix (pz_var 1) pz_int) (za_cons (pz_var 8) za_nil))))) zss_nil)
    (zss_cons (zs_if (zt_eq hr.units (pz_var 5) pz_str) (zss_one (zs_set 8 (pz_sub (pz_var 8) (pz_var 4)) sc_l_after.nd)) zss_nil)
    (zss_cons (zs_if (zt_eq hr.units (pz_var 2) pz_int) (zss_one (zs_ret pz_int)) zss_nil)
    (zss_one (zs_ret (pz_max2 rfl (by rfl) T.b_max (za_cons pz_int (za_cons (pz_var 8) za_nil)))))))))))), T.g_l_after, F.kp, F.bindsN (ps := ["metre", "data", "energy", "friction", "strength"]) fun _ _ _ _ _ _ us hl => match us, hl with | [_, _, _, _, _], _ => rfl⟩
/-! _law_rolled -/
theorem ok_l_rolled (T : Txt K mg) : CallF P0 w K mg base (He.ga K) "_law_rolled" 6 2 m_l_rolled := by
  obtain ⟨fd, F⟩ := T.f_l_rolled
  exact ⟨_, fd, ["metres", "data", "first", "energy", "frictions", "strengths"], fn_pure F sc_l_rolled (fun cdv A s H E o hr tk po =>
    (zss_cons (zs_set 6 (pz_lst za_nil) sc_l_rolled.nd)
    (zss_cons (zs_for po rfl (zi_range1 (by rfl) T.b_range (za_cons (pz_len (by rfl) T.b_len (za_cons (pz_var 4) za_nil)) za_nil)) (zg_name 7 sc_l_rolled.nd) (zss_cons (zs_set 3 (pz_callF (ok_l_after T) hr (by omega) (by rfl) tk (za_cons (pz_ix (pz_var 0) (pz_mod (pz_add (pz_var 2) (pz_var 7)) (pz_len (by rfl) T.b_len (za_cons (pz_var 0) za_nil)))) (za_cons (pz_var 1) (za_cons (pz_var 3) (za_cons (pz_ix (pz_var 4) (pz_var 7)) (za_cons (pz_ix (pz_var 5) (pz_var 7)) za_nil)))))) sc_l_rolled.nd)
    (zss_one (zs_expr (pz_bm mz_append (pe_bm PySem.F.plainAttrs_list PySem.F.slot_list_append PySem.F.type_list_append mt_append (pz_var 6) (za_cons (pz_var 3) za_nil)))))))
    (zss_one (zs_ret (pz_var 6)))))), T.g_l_rolled, F.kp, F.bindsN (ps := ["metres", "data", "first", "energy", "frictions", "strengths"]) fun _ _ _ _ _ _ us hl => match us, hl with | [_, _, _, _, _, _], _ => rfl⟩
/-! _law_like -/
theorem ok_l_like (T : Txt K mg) : ∀ j, CallF P0 w K mg base (He.ga K) "_law_like" 2 (1 + j) (m_l_like j)
  | 0 => by
    obtain ⟨fd, F⟩ := T.f_l_like
    exact ⟨_, fd, ["actual", "due"], fn_bad F sc_l_like, T.g_l_like, F.kp, F.bindsN (ps := ["actual", "due"]) fun _ _ _ _ _ _ us hl => match us, hl with | [_, _], _ => rfl⟩
  | j + 1 => by
    have ih := ok_l_like T j
    obtain ⟨fd, F⟩ := T.f_l_like
    exact ⟨_, fd, ["actual", "due"], fn_pure F sc_l_like (fun cdv A s H E o hr tk po =>
    (zss_cons (zs_if (zt_cmp op_isZ oz_is (pz_var 1) pz_non (nomark _)) (zss_one (zs_ret (pz_cmp op_isZ oz_is (pz_var 0) pz_non (nomark _)))) zss_nil)
    (zss_cons (zs_if (zt_val (pz_isi kit_bool (by rfl) T.b_isinstance (by rfl) T.b_bool (by decide +kernel) (pz_var 1))) (zss_one (zs_ret (pz_and (pz_isi kit_bool (by rfl) T.b_isinstance (by rfl) T.b_bool (by decide +kernel) (pz_var 0)) (pz_one (pz_eq hr.units (pz_var 0) (pz_var 1)))))) zss_nil)
    (zss_cons (zs_if (zt_val (pz_isi kit_str (by rfl) T.b_isinstance (by rfl) T.b_str (by decide +kernel) (pz_var 1))) (zss_one (zs_ret (pz_and (pz_isi kit_str (by rfl) T.b_isinstance (by rfl) T.b_str (by decide +kernel) (pz_var 0)) (pz_one (pz_eq hr.units (pz_var 0) (pz_var 1)))))) zss_nil)
    (zss_cons (zs_if (zt_val (pz_isi kit_int (by rfl) T.b_isinstance (by rfl) T.b_int (by decide +kernel) (pz_var 1))) (zss_one (zs_ret (pz_and (pz_isi kit_int (by rfl) T.b_isinstance (by rfl) T.b_int (by decide +kernel) (pz_var 0)) (pz_and (pz_not (pz_isi kit_bool (by rfl) T.b_isinstance (by rfl) T.b_bool (by decide +kernel) (pz_var 0))) (pz_one (pz_eq hr.units (pz_var 0) (pz_var 1))))))) zss_nil)
    (zss_cons (zs_if (zt_bool (zw_or (zt_ne hr.units (pz_isi kit_list (by rfl) T.b_isinstance (by rfl) T.b_list (by decide +kernel) (pz_var 1)) (pz_isi kit_list (by rfl) T.b_isinstance (by rfl) T.b_list (by decide +kernel) (pz_var 0))) (zw_or1 (zt_ne hr.units (pz_isi kit_tuple (by rfl) T.b_isinstance (by rfl) T.b_tuple (by decide +kernel) (pz_var 1)) (pz_isi kit_tuple (by rfl) T.b_isinstance (by rfl) T.b_tuple (by decide +kernel) (pz_var 0)))))) (zss_one (zs_ret pz_bl)) zss_nil)
    (zss_cons (zs_if (zt_ne hr.units (pz_len (by rfl) T.b_len (za_cons (pz_var 0) za_nil)) (pz_len (by rfl) T.b_len (za_cons (pz_var 1) za_nil))) (zss_one (zs_ret pz_bl)) zss_nil)
    (zss_one (zs_ret (pz_all rfl (by rfl) T.b_all (za_cons (pz_lc (own := [("k", 2)]) rfl sc_l_like.nd (zi_range1 (by rfl) T.b_range (za_cons (pz_len (by rfl) T.b_len (za_cons (pz_var 1) za_nil)) za_nil)) (blkOk_by (by kernel_rfl)) (fun _ _ _ _ _ => (zg_name 2 sc_l_like.nd)) (fun _ _ _ _ _ => zts_nil) (fun _ _ _ _ _ => (pz_callF ih hr (by show _ ≤ 1 + j; omega) (by rfl) tk0 (za_cons (pz_ix (pz_var 0) (pz_var 2)) (za_cons (pz_ix (pz_var 1) (pz_var 2)) za_nil)))) (by decide)) za_nil))))))))))), T.g_l_like, F.kp, F.bindsN (ps := ["actual", "due"]) fun _ _ _ _ _ _ us hl => match us, hl with | [_, _], _ => rfl⟩
/-! Layout.check_metre -/
theorem ok_Layout_check_metre (T : Txt K mg) : MethF P0 w K mg base (He.ga K) "Layout" "check_metre" 2 1 m_Layout_check_metre := by
  obtain ⟨fd, F⟩ := T.f_Layout_check_metre
  exact ⟨_, fd, ["self", "number"], fn_pure F sc_Layout_check_metre (fun cdv A s H E o hr tk po =>
    (zss_one (zs_if (zt_not (zt_chain op_le oz_le op_lt oz_lt pz_int (pz_var 1) (pz_len (by rfl) T.b_len (za_cons (pz_fld T.cl_Layout T.na_Layout_metres (pz_var 0)) za_nil)))) (zss_one (zs_raiseF T.x_BadNumber rfl tk rfl)) zss_nil))), T.me_Layout_check_metre, F.bindsN (ps := ["self", "number"]) fun _ _ _ _ _ _ us hl => match us, hl with | [_, _], _ => rfl, T.cl_Layout⟩
/-! check_energy -/
theorem ok_check_energy (T : Txt K mg) : CallF P0 w K mg base (He.ga K) "check_energy" 3 2 m_check_energy := by
  obtain ⟨fd, F⟩ := T.f_check_energy
  exact ⟨_, fd, ["layout", "metre", "energy"], fn_pure F sc_check_energy (fun cdv A s H E o hr tk po =>
    (zss_cons (zs_expr (pz_methF (ok_Layout_check_metre T) hr (by omega) tk (pz_var 0) (za_cons (pz_var 1) za_nil)))
    (zss_one (zs_if (zt_cmp op_lt oz_lt (pz_var 2) pz_int (nomark _)) (zss_one (zs_raiseF T.x_BadNumber rfl tk rfl)) zss_nil)))), T.g_check_energy, F.kp, F.bindsN (ps := ["layout", "metre", "energy"]) fun _ _ _ _ _ _ us hl => match us, hl with | [_, _, _], _ => rfl⟩
/-! Layout.metre -/
theorem ok_Layout_metre (T : Txt K mg) : MethF P0 w K mg base (He.ga K) "Layout" "metre" 2 2 m_Layout_metre := by
  obtain ⟨fd, F⟩ := T.f_Layout_metre
  exact ⟨_, fd, ["self", "number"], fn_pure F sc_Layout_metre (fun cdv A s H E o hr tk po =>
    (zss_cons (zs_expr (pz_methF (ok_Layout_check_metre T) hr (by omega) tk (pz_var 0) (za_cons (pz_var 1) za_nil)))
    (zss_one (zs_ret (pz_ix (pz_fld T.cl_Layout T.na_Layout_metres (pz_var 0)) (pz_var 1)))))), T.me_Layout_metre, F.bindsN (ps := ["self", "number"]) fun _ _ _ _ _ _ us hl => match us, hl with | [_, _], _ => rfl, T.cl_Layout⟩
/-! after_metre -/
theorem ok_after_metre (T : Txt K mg) : CallF P0 w K mg base (He.ga K) "after_metre" 6 3 m_after_metre := by
  obtain ⟨fd, F⟩ := T.f_after_metre
  exact ⟨_, fd, ["layout", "train", "metre", "energy", "friction", "strength"], fn_pure F sc_after_metre (fun cdv A s H E o hr tk po =>
    (zss_cons (zs_expr (pz_callF (ok_check_energy T) hr (by omega) (by rfl) tk (za_cons (pz_var 0) (za_cons (pz_var 2) (za_cons (pz_var 3) za_nil)))))
    (zss_cons (zs_asgT (pz_methF (ok_Layout_metre T) hr (by omega) tk (pz_var 0) (za_cons (pz_var 2) za_nil)) (zg_tup rfl (zgs_cons (zg_name 6 sc_after_metre.nd) (zgs_cons (zg_name 7 sc_after_metre.nd) (zgs_cons (zg_name 8 sc_after_metre.nd) zgs_nil)))))
    (zss_cons (zs_set 9 (pz_sub (pz_sub (pz_var 3) (pz_mul (pz_glob (by rfl) T.c_FALL) (pz_var 7))) (pz_var 4)) sc_after_metre.nd)
    (zss_cons (zs_if (zt_eq hr.units (pz_var 6) pz_str) (zss_one (zs_ret (pz_max2 rfl (by rfl) T.b_max (za_cons (pz_fld T.cl_Train T.na_Train_lift (pz_var 1)) (za_cons (pz_var 9) za_nil))))) zss_nil)
    (zss_cons (zs_if (zt_bool (zw_and (zt_eq hr.units (pz_var 6) pz_str) (zw_and1 (zt_cmp op_isZ oz_is (pz_var 5) pz_non (nomark _))))) (zss_one (zs_ret (pz_max2 rfl (by rfl) T.b_max (za_cons (pz_fld T.cl_Train T.na_Train_drive (pz_var 1)) (za_cons (pz_var 9) za_nil))))) zss_nil)
    (zss_cons (zs_if (zt_eq hr.units (pz_var 6) pz_str) (zss_one (zs_aug 9 (pz_var 5) ip_sub ipz_sub sc_after_metre.nd)) zss_nil)
    (zss_one (zs_ret (pz_if (zt_cmp op_gt oz_gt (pz_var 3) pz_int (nomark _)) (pz_max2 rfl (by rfl) T.b_max (za_cons pz_int (za_cons (pz_var 9) za_nil))) pz_int)))))))))), T.g_after_metre, F.kp, F.bindsN (ps := ["layout", "train", "metre", "energy", "friction", "strength"]) fun _ _ _ _ _ _ us hl => match us, hl with | [_, _, _, _, _, _], _ => rfl⟩
/-! Layout.total -/
theorem ok_Layout_total (T : Txt K mg) : MethF P0 w K mg base (He.ga K) "Layout" "total" 1 1 m_Layout_total := by
  obtain ⟨fd, F⟩ := T.f_Layout_total
  exact ⟨_, fd, ["self"], fn_pure F sc_Layout_total (fun cdv A s H E o hr tk po =>
    (zss_one (zs_ret (pz_len (by rfl) T.b_len (za_cons (pz_fld T.cl_Layout T.na_Layout_metres (pz_var 0)) za_nil))))), T.me_Layout_total, F.bindsN (ps := ["self"]) fun _ _ _ _ _ _ us hl => match us, hl with | [_], _ => rfl, T.cl_Layout⟩
/-! roll -/
theorem ok_roll (T : Txt K mg) : CallF P0 w K mg base (He.ga K) "roll" 6 4 m_roll := by
  obtain ⟨fd, F⟩ := T.f_roll
  exact ⟨_, fd, ["layout", "train", "metre", "energy", "frictions", "strengths"], fn_pure F sc_roll (fun cdv A s H E o hr tk po =>
    (zss_cons (zs_expr (pz_callF (ok_check_energy T) hr (by omega) (by rfl) tk (za_cons (pz_var 0) (za_cons (pz_var 2) (za_cons (pz_var 3) za_nil)))))
    (zss_cons (zs_if (zt_ne hr.units (pz_len (by rfl) T.b_len (za_cons (pz_var 4) za_nil)) (pz_len (by rfl) T.b_len (za_cons (pz_var 5) za_nil))) (zss_one (zs_raiseF T.x_NotFitting rfl tk rfl)) zss_nil)
    (zss_cons (zs_set 6 (pz_lst za_nil) sc_roll.nd)
    (zss_cons (zs_for po rfl (zi_zip (by rfl) T.b_zip (za_cons (pz_var 4) (za_cons (pz_var 5) za_nil))) (zg_tup rfl (zgs_cons (zg_name 7 sc_roll.nd) (zgs_cons (zg_name 8 sc_roll.nd) zgs_nil))) (zss_cons (zs_set 3 (pz_callF (ok_after_metre T) hr (by omega) (by rfl) tk (za_cons (pz_var 0) (za_cons (pz_var 1) (za_cons (pz_var 2) (za_cons (pz_var 3) (za_cons (pz_var 7) (za_cons (pz_var 8) za_nil))))))) sc_roll.nd)
    (zss_cons (zs_expr (pz_bm mz_append (pe_bm PySem.F.plainAttrs_list PySem.F.slot_list_append PySem.F.type_list_append mt_append (pz_var 6) (za_cons (pz_var 3) za_nil))))
    (zss_one (zs_set 2 (pz_mod (pz_add (pz_var 2) pz_int) (pz_methF0 (ok_Layout_total T) hr (by omega) tk (pz_var 0))) sc_roll.nd)))))
    (zss_one (zs_ret (pz_var 6)))))))), T.g_roll, F.kp, F.bindsN (ps := ["layout", "train", "metre", "energy", "frictions", "strengths"]) fun _ _ _ _ _ _ us hl => match us, hl with | [_, _, _, _, _, _], _ => rfl⟩
/-! _law_told -/
theorem ok_l_told (T : Txt K mg) : CallF P0 w K mg base (He.ga K) "_law_told" 6 5 m_l_told := by
  obtain ⟨fd, F⟩ := T.f_l_told
  exact ⟨_, fd, ["layout", "train", "metre", "energy", "frictions", "strengths"], fn_pure F sc_l_told (fun cdv A s H E o hr tk po =>
    (zss_one (zs_try T.exm rfl rfl tk (fun W pn xe tkW po => (zss_one (zs_ret (pz_callF (ok_roll T) hr (by omega) (by rfl) tkW (za_cons (pz_var 0) (za_cons (pz_var 1) (za_cons (pz_var 2) (za_cons (pz_var 3) (za_cons (pz_var 4) (za_cons (pz_var 5) za_nil)))))))))) (zh_cons (by rfl) T.g_BadNumber (fun _ _ _ _ _ => (zss_one (zs_ret (pz_tup (za_cons pz_str za_nil))))) (zh_cons (by rfl) T.g_NotFitting (fun _ _ _ _ _ => (zss_one (zs_ret (pz_tup (za_cons pz_str za_nil))))) zh_nil))))), T.g_l_told, F.kp, F.bindsN (ps := ["layout", "train", "metre", "energy", "frictions", "strengths"]) fun _ _ _ _ _ _ us hl => match us, hl with | [_, _, _, _, _, _], _ => rfl⟩
/-! _law_equal -/
theorem ok_l_equal (T : Txt K mg) : ∀ j, CallF P0 w K mg base (He.ga K) "_law_equal" 2 (1 + j) (m_l_equal j)
  | 0 => by
    obtain ⟨fd, F⟩ := T.f_l_equal
    exact ⟨_, fd, ["x", "y"], fn_bad F sc_l_equal, T.g_l_equal, F.kp, F.bindsN (ps := ["x", "y"]) fun _ _ _ _ _ _ us hl => match us, hl with | [_, _], _ => rfl⟩
  | j + 1 => by
    have ih := ok_l_equal T j
    obtain ⟨fd, F⟩ := T.f_l_equal
    exact ⟨_, fd, ["x", "y"], fn_pure F sc_l_equal (fun cdv A s H E o hr tk po =>
    (zss_cons (zs_if (zt_bool (zw_or (zt_ne hr.units (pz_isi kit_bool (by rfl) T.b_isinstance (by rfl) T.b_bool (by decide +kernel) (pz_var 0)) (pz_isi kit_bool (by rfl) T.b_isinstance (by rfl) T.b_bool (by decide +kernel) (pz_var 1))) (zw_or (zt_ne hr.units (pz_isi kit_int (by rfl) T.b_isinstance (by rfl) T.b_int (by decide +kernel) (pz_var 0)) (pz_isi kit_int (by rfl) T.b_isinstance (by rfl) T.b_int (by decide +kernel) (pz_var 1))) (zw_or1 (zt_ne hr.units (pz_isi kit_str (by rfl) T.b_isinstance (by rfl) T.b_str (by decide +kernel) (pz_var 0)) (pz_isi kit_str (by rfl) T.b_isinstance (by rfl) T.b_str (by decide +kernel) (pz_var 1))))))) (zss_one (zs_ret pz_bl)) zss_nil)
    (zss_cons (zs_if (zt_bool (zw_or (zt_ne hr.units (pz_isi kit_list (by rfl) T.b_isinstance (by rfl) T.b_list (by decide +kernel) (pz_var 0)) (pz_isi kit_list (by rfl) T.b_isinstance (by rfl) T.b_list (by decide +kernel) (pz_var 1))) (zw_or (zt_ne hr.units (pz_isi kit_tuple (by rfl) T.b_isinstance (by rfl) T.b_tuple (by decide +kernel) (pz_var 0)) (pz_isi kit_tuple (by rfl) T.b_isinstance (by rfl) T.b_tuple (by decide +kernel) (pz_var 1))) (zw_or1 (zt_ne hr.units (pz_isi kit_dict (by rfl) T.b_isinstance (by rfl) T.b_dict (by decide +kernel) (pz_var 0)) (pz_isi kit_dict (by rfl) T.b_isinstance (by rfl) T.b_dict (by decide +kernel) (pz_var 1))))))) (zss_one (zs_ret pz_bl)) zss_nil)
    (zss_cons (zs_if (zt_bool (zw_or (zt_val (pz_isi kit_list (by rfl) T.b_isinstance (by rfl) T.b_list (by decide +kernel) (pz_var 1))) (zw_or1 (zt_val (pz_isi kit_tuple (by rfl) T.b_isinstance (by rfl) T.b_tuple (by decide +kernel) (pz_var 1)))))) (zss_one (zs_ret (pz_and (pz_eq hr.units (pz_len (by rfl) T.b_len (za_cons (pz_var 0) za_nil)) (pz_len (by rfl) T.b_len (za_cons (pz_var 1) za_nil))) (pz_one (pz_all rfl (by rfl) T.b_all (za_cons (pz_lc (own := [("k", 2)]) rfl sc_l_equal.nd (zi_range1 (by rfl) T.b_range (za_cons (pz_len (by rfl) T.b_len (za_cons (pz_var 1) za_nil)) za_nil)) (blkOk_by (by kernel_rfl)) (fun _ _ _ _ _ => (zg_name 2 sc_l_equal.nd)) (fun _ _ _ _ _ => zts_nil) (fun _ _ _ _ _ => (pz_callF ih hr (by show _ ≤ 1 + j; omega) (by rfl) tk0 (za_cons (pz_ix (pz_var 0) (pz_var 2)) (za_cons (pz_ix (pz_var 1) (pz_var 2)) za_nil)))) (by decide)) za_nil)))))) zss_nil)
    (zss_cons (zs_if (zt_val (pz_isi kit_dict (by rfl) T.b_isinstance (by rfl) T.b_dict (by decide +kernel) (pz_var 1))) (zss_one (zs_ret (pz_and (pz_eq hr.units (pz_len (by rfl) T.b_len (za_cons (pz_var 0) za_nil)) (pz_len (by rfl) T.b_len (za_cons (pz_var 1) za_nil))) (pz_one (pz_all rfl (by rfl) T.b_all (za_cons (pz_lc (own := [("key", 3)]) rfl sc_l_equal.nd (zi_seq (pz_var 1)) (blkOk_by (by kernel_rfl)) (fun _ _ _ _ _ => (zg_name 3 sc_l_equal.nd)) (fun _ _ _ _ _ => zts_nil) (fun _ _ _ _ _ => (pz_and (pz_cmp or_in (oz_in (neg := false)) (pz_var 3) (pz_var 0) rfl) (pz_one (pz_callF ih hr (by show _ ≤ 1 + j; omega) (by rfl) tk0 (za_cons (pz_ix (pz_var 0) (pz_var 3)) (za_cons (pz_ix (pz_var 1) (pz_var 3)) za_nil)))))) (by decide)) za_nil)))))) zss_nil)
    (zss_one (zs_ret (pz_cmp op_isZ oz_is (pz_eq hr.units (pz_var 0) (pz_var 1)) pz_bl (nomark _))))))))), T.g_l_equal, F.kp, F.bindsN (ps := ["x", "y"]) fun _ _ _ _ _ _ us hl => match us, hl with | [_, _], _ => rfl⟩
/-! law -/
theorem ok_law (T : Txt K mg) : ∃ fd, (∀ (s : Shared) (v : Value), BindsTo s fd ⟨[v], []⟩ [("script", v)]) ∧ ∀ base : Heap, FnOk P0 w K mg base (L2.CX P0 w) 7 (He.ga K "law") fd ["script"] (spP K (He.ga K) 1 m_law) := by
  obtain ⟨fd, F⟩ := T.f_law
  exact ⟨fd, fun s v => F.bindsA (ps := ["script"]) (fun _ _ _ _ _ _ us hl => match us, hl with | [_], _ => rfl) s [v] rfl, fun base => fn_pure F sc_law (fun cdv A s H E o hr tk po =>
    (zss_cons (zs_set 1 (pz_callF (ok_l_drawn_train T) hr (by omega) (by rfl) tk (za_cons (pz_callF (ok_l_draws T) hr (by omega) (by rfl) tk (za_cons (pz_callF (ok_l_cell T) hr (by omega) (by rfl) tk (za_cons (pz_var 0) (za_cons pz_int za_nil))) (za_cons pz_int za_nil))) za_nil)) sc_law.nd)
    (zss_cons (zs_set 2 (pz_callF (ok_l_drawn_layout T) hr (by omega) (by rfl) tk (za_cons (pz_callF (ok_l_draws T) hr (by omega) (by rfl) tk (za_cons (pz_callF (ok_l_cell T) hr (by omega) (by rfl) tk (za_cons (pz_var 0) (za_cons pz_int za_nil))) (za_cons pz_int za_nil))) za_nil)) sc_law.nd)
    (zss_cons (zs_set 3 (pz_callF (ok_l_metres T) hr (by omega) (by rfl) tk (za_cons (pz_var 2) za_nil)) sc_law.nd)
    (zss_cons (zs_set 4 (pz_callF (ok_l_layout T) hr (by omega) (by rfl) tk (za_cons (pz_var 2) za_nil)) sc_law.nd)
    (zss_cons (zs_set 5 (pz_callF (ok_l_train T) hr (by omega) (by rfl) tk (za_cons (pz_var 1) za_nil)) sc_law.nd)
    (zss_cons (zs_set 6 (pz_callF (ok_l_draws T) hr (by omega) (by rfl) tk (za_cons (pz_callF (ok_l_cell T) hr (by omega) (by rfl) tk (za_cons (pz_var 0) (za_cons pz_int za_nil))) (za_cons pz_int za_nil))) sc_law.nd)
    (zss_cons (zs_set 7 (pz_mod (pz_ix (pz_var 6) pz_int) (pz_len (by rfl) T.b_len (za_cons (pz_var 3) za_nil))) sc_law.nd)
    (zss_cons (zs_setLc 8 (own := [("k", 9)]) rfl sc_law.nd (zi_range1 (by rfl) T.b_range (za_cons (pz_mod (pz_ix (pz_var 6) pz_int) pz_int) za_nil)) (blkOk_by (by kernel_rfl)) (fun _ _ _ _ _ => (zg_name 9 sc_law.nd)) (fun _ _ _ _ _ => zts_nil) (fun _ _ _ _ _ => (pz_add (pz_ix (pz_ix (pz_var 1) pz_int) pz_int) (pz_mod (pz_ix (pz_var 6) (pz_var 9)) (pz_add (pz_sub (pz_ix (pz_ix (pz_var 1) pz_int) pz_int) (pz_ix (pz_ix (pz_var 1) pz_int) pz_int)) pz_int)))) (by decide) (sw_true rfl rfl rfl (by decide +kernel)))
    (zss_cons (zs_set 10 (pz_lst za_nil) sc_law.nd)
    (zss_cons (zs_for po rfl (zi_range1 (by rfl) T.b_range (za_cons (pz_len (by rfl) T.b_len (za_cons (pz_var 8) za_nil)) za_nil)) (zg_name 9 sc_law.nd) (zss_cons (zs_set 11 pz_non sc_law.nd)
    (zss_cons (zs_if (zt_eq hr.units (pz_mod (pz_fdiv (pz_ix (pz_var 6) (pz_var 9)) pz_int) pz_int) pz_int) (zss_one (zs_set 11 (pz_add (pz_ix (pz_ix (pz_var 1) pz_int) pz_int) (pz_mod (pz_ix (pz_var 6) (pz_var 9)) (pz_add (pz_sub (pz_ix (pz_ix (pz_var 1) pz_int) pz_int) (pz_ix (pz_ix (pz_var 1) pz_int) pz_int)) pz_int))) sc_law.nd)) zss_nil)
    (zss_one (zs_expr (pz_bm mz_append (pe_bm PySem.F.plainAttrs_list PySem.F.slot_list_append PySem.F.type_list_append mt_append (pz_var 10) (za_cons (pz_var 11) za_nil))))))))
    (zss_cons (zs_set 12 (pz_mul (pz_ix (pz_var 6) pz_int) (pz_add pz_int (pz_mod (pz_ix (pz_var 6) pz_int) pz_int))) sc_law.nd)
    (zss_cons (zs_set 13 (pz_callF (ok_l_rolled T) hr (by omega) (by rfl) tk (za_cons (pz_var 3) (za_cons (pz_var 1) (za_cons (pz_var 7) (za_cons (pz_var 12) (za_cons (pz_var 8) (za_cons (pz_var 10) za_nil))))))) sc_law.nd)
    (zss_cons (zs_set 14 (pz_lstP (za_cons (pz_lc (own := [("row", 15)]) rfl sc_law.nd (zi_seq (pz_var 8)) (blkOk_by (by kernel_rfl)) (fun _ _ _ _ _ => (zg_name 15 sc_law.nd)) (fun _ _ _ _ _ => zts_nil) (fun _ _ _ _ _ => (pz_var 15)) (by decide)) (za_cons (pz_lc (own := [("row", 15)]) rfl sc_law.nd (zi_seq (pz_var 10)) (blkOk_by (by kernel_rfl)) (fun _ _ _ _ _ => (zg_name 15 sc_law.nd)) (fun _ _ _ _ _ => zts_nil) (fun _ _ _ _ _ => (pz_var 15)) (by decide)) za_nil))) sc_law.nd)
    (zss_cons (zs_if (zt_not (zt_val (pz_callF (ok_l_like T 5) hr (by omega) (by rfl) tk (za_cons (pz_callF (ok_roll T) hr (by omega) (by rfl) tk (za_cons (pz_var 4) (za_cons (pz_var 5) (za_cons (pz_var 7) (za_cons (pz_var 12) (za_cons (pz_var 8) (za_cons (pz_var 10) za_nil))))))) (za_cons (pz_var 13) za_nil))))) (zss_one (zs_ret pz_bl)) zss_nil)
    (zss_cons (zs_if (zt_ne hr.units (pz_lstP (za_cons (pz_lc (own := [("row", 15)]) rfl sc_law.nd (zi_seq (pz_var 8)) (blkOk_by (by kernel_rfl)) (fun _ _ _ _ _ => (zg_name 15 sc_law.nd)) (fun _ _ _ _ _ => zts_nil) (fun _ _ _ _ _ => (pz_var 15)) (by decide)) (za_cons (pz_lc (own := [("row", 15)]) rfl sc_law.nd (zi_seq (pz_var 10)) (blkOk_by (by kernel_rfl)) (fun _ _ _ _ _ => (zg_name 15 sc_law.nd)) (fun _ _ _ _ _ => zts_nil) (fun _ _ _ _ _ => (pz_var 15)) (by decide)) za_nil))) (pz_var 14)) (zss_one (zs_ret pz_bl)) zss_nil)
    (zss_cons (zs_if (zt_bool (zw_or (zt_ne hr.units (pz_callF (ok_l_told T) hr (by omega) (by rfl) tk (za_cons (pz_var 4) (za_cons (pz_var 5) (za_cons (pz_var 7) (za_cons (pz_var 12) (za_cons (pz_add (pz_var 8) (pz_lstP (za_cons pz_int za_nil))) (za_cons (pz_var 10) za_nil))))))) (pz_tup (za_cons pz_str za_nil))) (zw_or1 (zt_not (zt_val (pz_callF (ok_l_equal T 5) hr (by omega) (by rfl) tk (za_cons (pz_callF (ok_l_told T) hr (by omega) (by rfl) tk (za_cons (pz_var 4) (za_cons (pz_var 5) (za_cons (pz_var 7) (za_cons (pz_var 12) (za_cons (pz_var 8) (za_cons (pz_add (pz_var 10) (pz_lstP (za_cons pz_non za_nil))) za_nil))))))) (za_cons (pz_tup (za_cons pz_str za_nil)) za_nil)))))))) (zss_one (zs_ret pz_bl)) zss_nil)
    (zss_one (zs_ret (pz_and (pz_callF (ok_l_equal T 5) hr (by omega) (by rfl) tk (za_cons (pz_callF (ok_l_told T) hr (by omega) (by rfl) tk (za_cons (pz_var 4) (za_cons (pz_var 5) (za_cons (pz_len (by rfl) T.b_len (za_cons (pz_var 3) za_nil)) (za_cons (pz_var 12) (za_cons (pz_lstP za_nil) (za_cons (pz_lstP (za_cons pz_non za_nil)) za_nil))))))) (za_cons (pz_tup (za_cons pz_str za_nil)) za_nil))) (pz_one (pz_callF (ok_l_equal T 5) hr (by omega) (by rfl) tk (za_cons (pz_callF (ok_l_told T) hr (by omega) (by rfl) tk (za_cons (pz_var 4) (za_cons (pz_var 5) (za_cons (pz_var 7) (za_cons (pz_neg pz_int) (za_cons (pz_lstP (za_cons pz_int za_nil)) (za_cons (pz_lstP za_nil) za_nil))))))) (za_cons (pz_tup (za_cons pz_str za_nil)) za_nil))))))))))))))))))))))))⟩
end
end Gk07
end
-- part G07Head
section
set_option Elab.async false
set_option linter.all false
set_option maxRecDepth 100000
set_option maxHeartbeats 0
namespace Gk07
open PySem PySem.Spec PyProof.Rows L2 Z
def d0 : He.DefD := ⟨("_law_drawn_train", none), "_law_drawn_train", "_law_drawn_train", defArgs s_l_drawn_train, defBody s_l_drawn_train, defScope s_l_drawn_train, [], []⟩
def d1 : He.DefD := ⟨("_law_draws", none), "_law_draws", "_law_draws", defArgs s_l_draws, defBody s_l_draws, defScope s_l_draws, [], []⟩
def d2 : He.DefD := ⟨("_law_cell", none), "_law_cell", "_law_cell", defArgs s_l_cell, defBody s_l_cell, defScope s_l_cell, [], []⟩
def d3 : He.DefD := ⟨("_law_drawn_segments", none), "_law_drawn_segments", "_law_drawn_segments", defArgs s_l_drawn_segments, defBody s_l_drawn_segments, defScope s_l_drawn_segments, [], []⟩
def d4 : He.DefD := ⟨("_law_drawn_layout", none), "_law_drawn_layout", "_law_drawn_layout", defArgs s_l_drawn_layout, defBody s_l_drawn_layout, defScope s_l_drawn_layout, [], []⟩
def d5 : He.DefD := ⟨("_law_metres", none), "_law_metres", "_law_metres", defArgs s_l_metres, defBody s_l_metres, defScope s_l_metres, [], []⟩
def d6 : He.DefD := ⟨("check_segments", none), "check_segments", "check_segments", defArgs s_check_segments, defBody s_check_segments, defScope s_check_segments, [], []⟩
def d7 : He.DefD := ⟨("Layout", some "__init__"), "__init__", "Layout.__init__", defArgs s_Layout_init, defBody s_Layout_init, defScope s_Layout_init, [], []⟩
def d8 : He.DefD := ⟨("_law_layout", none), "_law_layout", "_law_layout", defArgs s_l_layout, defBody s_l_layout, defScope s_l_layout, [], []⟩
def d9 : He.DefD := ⟨("is_interval", none), "is_interval", "is_interval", defArgs s_is_interval, defBody s_is_interval, defScope s_is_interval, [], []⟩
def d10 : He.DefD := ⟨("Train", some "__init__"), "__init__", "Train.__init__", defArgs s_Train_init, defBody s_Train_init, defScope s_Train_init, [], []⟩
def d11 : He.DefD := ⟨("_law_train", none), "_law_train", "_law_train", defArgs s_l_train, defBody s_l_train, defScope s_l_train, [], []⟩
def d12 : He.DefD := ⟨("_law_after", none), "_law_after", "_law_after", defArgs s_l_after, defBody s_l_after, defScope s_l_after, [], []⟩
def d13 : He.DefD := ⟨("_law_rolled", none), "_law_rolled", "_law_rolled", defArgs s_l_rolled, defBody s_l_rolled, defScope s_l_rolled, [], []⟩
def d14 : He.DefD := ⟨("_law_like", none), "_law_like", "_law_like", defArgs s_l_like, defBody s_l_like, defScope s_l_like, [], []⟩
def d15 : He.DefD := ⟨("Layout", some "check_metre"), "check_metre", "Layout.check_metre", defArgs s_Layout_check_metre, defBody s_Layout_check_metre, defScope s_Layout_check_metre, [], []⟩
def d16 : He.DefD := ⟨("check_energy", none), "check_energy", "check_energy", defArgs s_check_energy, defBody s_check_energy, defScope s_check_energy, [], []⟩
def d17 : He.DefD := ⟨("Layout", some "metre"), "metre", "Layout.metre", defArgs s_Layout_metre, defBody s_Layout_metre, defScope s_Layout_metre, [], []⟩
def d18 : He.DefD := ⟨("after_metre", none), "after_metre", "after_metre", defArgs s_after_metre, defBody s_after_metre, defScope s_after_metre, [], []⟩
def d19 : He.DefD := ⟨("Layout", some "total"), "total", "Layout.total", defArgs s_Layout_total, defBody s_Layout_total, defScope s_Layout_total, [], []⟩
def d20 : He.DefD := ⟨("roll", none), "roll", "roll", defArgs s_roll, defBody s_roll, defScope s_roll, [], []⟩
def d21 : He.DefD := ⟨("_law_told", none), "_law_told", "_law_told", defArgs s_l_told, defBody s_l_told, defScope s_l_told, [], []⟩
def d22 : He.DefD := ⟨("_law_equal", none), "_law_equal", "_law_equal", defArgs s_l_equal, defBody s_l_equal, defScope s_l_equal, [], []⟩
def d23 : He.DefD := ⟨("law", none), "law", "law", defArgs s_law, defBody s_law, defScope s_law, [], []⟩
def fn0 : List He.DefD := [d0, d1, d2, d3, d4, d5, d6, d7, d8, d9, d10, d11]
def fn1 : List He.DefD := [d12, d13, d14, d15, d16, d17, d18, d19, d20, d21, d22, d23]
def fn : List He.DefD := fn0 ++ fn1
def fa0 : List He.Fa := [.glo "_law_drawn_train", .free "range", .free "int", .glo "_law_draws", .free "len", .free "abs", .glo "_law_cell", .free "min", .free "max", .glo "_law_drawn_segments", .free "sum", .glo "_law_drawn_layout"]
def fa1 : List He.Fa := [.glo "_law_metres", .glo "KINDS", .int "MOST_LENGTH_layout" 500, .int "MOST_SLOPE" 100, .glo "InvalidLayout", .exc "InvalidLayout", .int "MOST_TOTAL" 4000, .int "MOST_BLOCKS" 12, .glo "check_segments", .free "tuple", .cls "Layout", .noat "Layout" "segments"]
def fa2 : List He.Fa := [.noat "Layout" "metres", .noat "Layout" "begins", .noat "Layout" "brakes", .noat "Layout" "heights", .glo "Layout", .mkr "Layout", .glo "_law_layout", .int "MOST_LENGTH_train" 100, .glo "InvalidTrain", .exc "InvalidTrain", .glo "is_interval", .int "MOST_FRICTION" 100000]
def fa3 : List He.Fa := [.int "MOST_BRAKE" 1000000, .int "MOST_ENERGY" 10000000, .cls "Train", .noat "Train" "length", .noat "Train" "friction", .noat "Train" "brake", .noat "Train" "lift", .noat "Train" "drive", .glo "Train", .mkr "Train", .glo "_law_train", .glo "_law_after"]
def fa4 : List He.Fa := [.glo "_law_rolled", .free "isinstance", .free "bool", .free "str", .free "list", .free "all", .glo "_law_like", .glo "BadNumber", .exc "BadNumber", .meth "Layout" "check_metre", .glo "check_energy", .glo "NotFitting"]
def fa5 : List He.Fa := [.exc "NotFitting", .free "zip", .meth "Layout" "metre", .int "FALL" 1962, .glo "after_metre", .meth "Layout" "total", .glo "roll", .exm "NotFitting" "BadNumber" false, .exm "NotFitting" "NotFitting" true, .exm "InvalidLayout" "BadNumber" false, .exm "InvalidLayout" "NotFitting" false, .exm "InvalidTrain" "BadNumber" false]
def fa6 : List He.Fa := [.exm "InvalidTrain" "NotFitting" false, .exm "BadNumber" "BadNumber" true, .exm "BadNumber" "NotFitting" false, .exm "CoasterError" "BadNumber" false, .glo "CoasterError", .exm "CoasterError" "NotFitting" false, .glo "_law_told", .free "dict", .glo "_law_equal", .glo "law"]
def fa : List He.Fa := fa0 ++ fa1 ++ fa2 ++ fa3 ++ fa4 ++ fa5 ++ fa6
def names0 : List Str := ["_wall", "__name__", "CoasterError", "BadNumber", "InvalidLayout", "InvalidTrain", "NotFitting", "is_interval", "FALL", "check_energy", "after_metre", "roll"]
def names1 : List Str := ["KINDS", "MOST_LENGTH_layout", "MOST_SLOPE", "MOST_TOTAL", "MOST_BLOCKS", "check_segments", "Layout", "MOST_LENGTH_train", "MOST_FRICTION", "MOST_BRAKE", "MOST_ENERGY", "Train"]
def names2 : List Str := ["_law_equal", "_law_cell", "_law_draws", "_law_like", "_law_drawn_segments", "_law_drawn_layout", "_law_drawn_train", "_law_metres", "_law_after", "_law_layout", "_law_train", "_law_rolled"]
def names3 : List Str := ["_law_told"]
def names : List Str := names0 ++ names1 ++ names2 ++ names3
def mo (K : PySem.W.Frag) : Bool := (He.tupB K "KINDS" [.str "coast", .str "lift", .str "brake"])
abbrev R : PySem.W.OpenRow := PySem.W.OpenLaw.row PySem.Challenge.rw_coastersafe_k07_rolls
abbrev hk : PySem.W.Hook := Z.hookM 4 fa fn mo
def ob (s : PySem.W.SharedT) : Z.AlM := Z.obsMG 4 fa fn mo (HandSHeadRun.getT s)
theorem ob_eq (s : PySem.W.SharedT) : ob s = hk.obs s.abs := Z.obsMG_eq (HandSHeadRun.getT_eq s)
theorem run (w : World) : HandSHeadRun.RunEq R (PySem.W.view R.prog [42]) hk ob 8000 names w := by
  intro os
  kernel_rfl
theorem txt {K : PySem.W.Frag} {h : Heap} {mg : Str → Option Value} (X : K.In h) (G : h.Ns mainGlobals mg) (c : Z.SaysM fa fn mo K) : Txt K mg := by
  have hmo : (He.tupB K "KINDS" [.str "coast", .str "lift", .str "brake"]) = true := by
    have h := c.more
    simp only [mo, Bool.and_eq_true] at h
    simpa only [and_assoc] using h
  exact {
    f_l_drawn_train := c.def_ 0 (d := d0) rfl,
    g_l_drawn_train := He.glo_ok X G (c.fact 0 (f := .glo "_law_drawn_train") rfl),
    b_range := He.free_ok X G (c.fact 1 (f := .free "range") rfl),
    b_int := He.free_ok X G (c.fact 2 (f := .free "int") rfl),
    f_l_draws := c.def_ 1 (d := d1) rfl,
    g_l_draws := He.glo_ok X G (c.fact 3 (f := .glo "_law_draws") rfl),
    b_len := He.free_ok X G (c.fact 4 (f := .free "len") rfl),
    b_abs := He.free_ok X G (c.fact 5 (f := .free "abs") rfl),
    f_l_cell := c.def_ 2 (d := d2) rfl,
    g_l_cell := He.glo_ok X G (c.fact 6 (f := .glo "_law_cell") rfl),
    b_min := He.free_ok X G (c.fact 7 (f := .free "min") rfl),
    b_max := He.free_ok X G (c.fact 8 (f := .free "max") rfl),
    f_l_drawn_segments := c.def_ 3 (d := d3) rfl,
    g_l_drawn_segments := He.glo_ok X G (c.fact 9 (f := .glo "_law_drawn_segments") rfl),
    b_sum := He.free_ok X G (c.fact 10 (f := .free "sum") rfl),
    f_l_drawn_layout := c.def_ 4 (d := d4) rfl,
    g_l_drawn_layout := He.glo_ok X G (c.fact 11 (f := .glo "_law_drawn_layout") rfl),
    f_l_metres := c.def_ 5 (d := d5) rfl,
    g_l_metres := He.glo_ok X G (c.fact 12 (f := .glo "_law_metres") rfl),
    g_KINDS := He.glo_ok X G (c.fact 13 (f := .glo "KINDS") rfl),
    c_KINDS := Z.glo_tup (hmo) (He.glo_ok X G (c.fact 13 (f := .glo "KINDS") rfl)) rfl _,
    c_MOST_LENGTH_layout := glo_int (He.int_ok X G (c.fact 14 (f := .int "MOST_LENGTH_layout" 500) rfl)),
    c_MOST_SLOPE := glo_int (He.int_ok X G (c.fact 15 (f := .int "MOST_SLOPE" 100) rfl)),
    g_InvalidLayout := He.glo_ok X G (c.fact 16 (f := .glo "InvalidLayout") rfl),
    x_InvalidLayout := Z.exc_mk (He.exc_ok (c.fact 17 (f := .exc "InvalidLayout") rfl)) (He.glo_ok X G (c.fact 16 (f := .glo "InvalidLayout") rfl)),
    c_MOST_TOTAL := glo_int (He.int_ok X G (c.fact 18 (f := .int "MOST_TOTAL" 4000) rfl)),
    c_MOST_BLOCKS := glo_int (He.int_ok X G (c.fact 19 (f := .int "MOST_BLOCKS" 12) rfl)),
    f_check_segments := c.def_ 6 (d := d6) rfl,
    g_check_segments := He.glo_ok X G (c.fact 20 (f := .glo "check_segments") rfl),
    b_tuple := He.free_ok X G (c.fact 21 (f := .free "tuple") rfl),
    cl_Layout := He.cls_ok (c.fact 22 (f := .cls "Layout") rfl),
    na_Layout_segments := He.noat_ok (c.fact 23 (f := .noat "Layout" "segments") rfl),
    na_Layout_metres := He.noat_ok (c.fact 24 (f := .noat "Layout" "metres") rfl),
    na_Layout_begins := He.noat_ok (c.fact 25 (f := .noat "Layout" "begins") rfl),
    na_Layout_brakes := He.noat_ok (c.fact 26 (f := .noat "Layout" "brakes") rfl),
    na_Layout_heights := He.noat_ok (c.fact 27 (f := .noat "Layout" "heights") rfl),
    f_Layout_init := c.def_ 7 (d := d7) rfl,
    g_Layout := He.glo_ok X G (c.fact 28 (f := .glo "Layout") rfl),
    mk_Layout := He.mkr_ok (c.fact 29 (f := .mkr "Layout") rfl),
    f_l_layout := c.def_ 8 (d := d8) rfl,
    g_l_layout := He.glo_ok X G (c.fact 30 (f := .glo "_law_layout") rfl),
    c_MOST_LENGTH_train := glo_int (He.int_ok X G (c.fact 31 (f := .int "MOST_LENGTH_train" 100) rfl)),
    g_InvalidTrain := He.glo_ok X G (c.fact 32 (f := .glo "InvalidTrain") rfl),
    x_InvalidTrain := Z.exc_mk (He.exc_ok (c.fact 33 (f := .exc "InvalidTrain") rfl)) (He.glo_ok X G (c.fact 32 (f := .glo "InvalidTrain") rfl)),
    f_is_interval := c.def_ 9 (d := d9) rfl,
    g_is_interval := He.glo_ok X G (c.fact 34 (f := .glo "is_interval") rfl),
    c_MOST_FRICTION := glo_int (He.int_ok X G (c.fact 35 (f := .int "MOST_FRICTION" 100000) rfl)),
    c_MOST_BRAKE := glo_int (He.int_ok X G (c.fact 36 (f := .int "MOST_BRAKE" 1000000) rfl)),
    c_MOST_ENERGY := glo_int (He.int_ok X G (c.fact 37 (f := .int "MOST_ENERGY" 10000000) rfl)),
    cl_Train := He.cls_ok (c.fact 38 (f := .cls "Train") rfl),
    na_Train_length := He.noat_ok (c.fact 39 (f := .noat "Train" "length") rfl),
    na_Train_friction := He.noat_ok (c.fact 40 (f := .noat "Train" "friction") rfl),
    na_Train_brake := He.noat_ok (c.fact 41 (f := .noat "Train" "brake") rfl),
    na_Train_lift := He.noat_ok (c.fact 42 (f := .noat "Train" "lift") rfl),
    na_Train_drive := He.noat_ok (c.fact 43 (f := .noat "Train" "drive") rfl),
    f_Train_init := c.def_ 10 (d := d10) rfl,
    g_Train := He.glo_ok X G (c.fact 44 (f := .glo "Train") rfl),
    mk_Train := He.mkr_ok (c.fact 45 (f := .mkr "Train") rfl),
    f_l_train := c.def_ 11 (d := d11) rfl,
    g_l_train := He.glo_ok X G (c.fact 46 (f := .glo "_law_train") rfl),
    f_l_after := c.def_ 12 (d := d12) rfl,
    g_l_after := He.glo_ok X G (c.fact 47 (f := .glo "_law_after") rfl),
    f_l_rolled := c.def_ 13 (d := d13) rfl,
    g_l_rolled := He.glo_ok X G (c.fact 48 (f := .glo "_law_rolled") rfl),
    b_isinstance := He.free_ok X G (c.fact 49 (f := .free "isinstance") rfl),
    b_bool := He.free_ok X G (c.fact 50 (f := .free "bool") rfl),
    b_str := He.free_ok X G (c.fact 51 (f := .free "str") rfl),
    b_list := He.free_ok X G (c.fact 52 (f := .free "list") rfl),
    b_all := He.free_ok X G (c.fact 53 (f := .free "all") rfl),
    f_l_like := c.def_ 14 (d := d14) rfl,
    g_l_like := He.glo_ok X G (c.fact 54 (f := .glo "_law_like") rfl),
    g_BadNumber := He.glo_ok X G (c.fact 55 (f := .glo "BadNumber") rfl),
    x_BadNumber := Z.exc_mk (He.exc_ok (c.fact 56 (f := .exc "BadNumber") rfl)) (He.glo_ok X G (c.fact 55 (f := .glo "BadNumber") rfl)),
    f_Layout_check_metre := c.def_ 15 (d := d15) rfl,
    me_Layout_check_metre := He.meth_ok (c.fact 57 (f := .meth "Layout" "check_metre") rfl),
    f_check_energy := c.def_ 16 (d := d16) rfl,
    g_check_energy := He.glo_ok X G (c.fact 58 (f := .glo "check_energy") rfl),
    g_NotFitting := He.glo_ok X G (c.fact 59 (f := .glo "NotFitting") rfl),
    x_NotFitting := Z.exc_mk (He.exc_ok (c.fact 60 (f := .exc "NotFitting") rfl)) (He.glo_ok X G (c.fact 59 (f := .glo "NotFitting") rfl)),
    b_zip := He.free_ok X G (c.fact 61 (f := .free "zip") rfl),
    f_Layout_metre := c.def_ 17 (d := d17) rfl,
    me_Layout_metre := He.meth_ok (c.fact 62 (f := .meth "Layout" "metre") rfl),
    c_FALL := glo_int (He.int_ok X G (c.fact 63 (f := .int "FALL" 1962) rfl)),
    f_after_metre := c.def_ 18 (d := d18) rfl,
    g_after_metre := He.glo_ok X G (c.fact 64 (f := .glo "after_metre") rfl),
    f_Layout_total := c.def_ 19 (d := d19) rfl,
    me_Layout_total := He.meth_ok (c.fact 65 (f := .meth "Layout" "total") rfl),
    f_roll := c.def_ 20 (d := d20) rfl,
    g_roll := He.glo_ok X G (c.fact 66 (f := .glo "roll") rfl),
    e_NotFitting_BadNumber := He.exm_ok (c.fact 67 (f := .exm "NotFitting" "BadNumber" false) rfl),
    e_NotFitting_NotFitting := He.exm_ok (c.fact 68 (f := .exm "NotFitting" "NotFitting" true) rfl),
    e_InvalidLayout_BadNumber := He.exm_ok (c.fact 69 (f := .exm "InvalidLayout" "BadNumber" false) rfl),
    e_InvalidLayout_NotFitting := He.exm_ok (c.fact 70 (f := .exm "InvalidLayout" "NotFitting" false) rfl),
    e_InvalidTrain_BadNumber := He.exm_ok (c.fact 71 (f := .exm "InvalidTrain" "BadNumber" false) rfl),
    e_InvalidTrain_NotFitting := He.exm_ok (c.fact 72 (f := .exm "InvalidTrain" "NotFitting" false) rfl),
    e_BadNumber_BadNumber := He.exm_ok (c.fact 73 (f := .exm "BadNumber" "BadNumber" true) rfl),
    e_BadNumber_NotFitting := He.exm_ok (c.fact 74 (f := .exm "BadNumber" "NotFitting" false) rfl),
    e_CoasterError_BadNumber := He.exm_ok (c.fact 75 (f := .exm "CoasterError" "BadNumber" false) rfl),
    g_CoasterError := He.glo_ok X G (c.fact 76 (f := .glo "CoasterError") rfl),
    e_CoasterError_NotFitting := He.exm_ok (c.fact 77 (f := .exm "CoasterError" "NotFitting" false) rfl),
    f_l_told := c.def_ 21 (d := d21) rfl,
    g_l_told := He.glo_ok X G (c.fact 78 (f := .glo "_law_told") rfl),
    b_dict := He.free_ok X G (c.fact 79 (f := .free "dict") rfl),
    f_l_equal := c.def_ 22 (d := d22) rfl,
    g_l_equal := He.glo_ok X G (c.fact 80 (f := .glo "_law_equal") rfl),
    f_law := c.def_ 23 (d := d23) rfl,
    g_law := He.glo_ok X G (c.fact 81 (f := .glo "law") rfl) }
end Gk07
open PySem PySem.W PySem.Calls PyProof.Rows
theorem Gk07.ends (hlaw : ∀ ns : List Int, ns.length ≤ 63 → Gk07.m_law [.scr ns] = .ok (.bl true)) : PySem.Challenge.rw_coastersafe_k07_rolls.Holds := by
  w_on; o_law
  refine HandSHeadRun.head_any (r := OpenLaw.row PySem.Challenge.rw_coastersafe_k07_rolls) (q := view (OpenLaw.row PySem.Challenge.rw_coastersafe_k07_rolls).prog [42]) (H := Gk07.hk) (ob := Gk07.ob) (M := 8000) (loose := Gk07.names) (d := HandSHeadRun.topDef (OpenLaw.row PySem.Challenge.rw_coastersafe_k07_rolls).prog 42) (kwd := []) Gk07.ob_eq
    (by kernel_rfl) (fun s => by kernel_rfl) Gk07.run (by kernel_rfl) (by kernel_rfl) (by kernel_rfl) (by rfl) (by first | assumption | decide +kernel) (by decide +kernel) ⟨rfl, rfl, rfl, rfl, rfl, by decide +kernel⟩ ?hw ?hc
  case hw => w_witness2
  case hc =>
    refine Z.walk_ofZ (l := PySem.Challenge.rw_coastersafe_k07_rolls) (n := 63) (k := 7) (x := "script") rfl (by decide) (by kernel_rfl) ⟨rfl, by decide, by decide⟩ ?F
    intro w mg fa h Y G hmg0
    obtain ⟨K, KX, c⟩ := Y
    have hmg : mg ("law" : PySem.Str) = some (.ref fa) := by
      have e : (HandSHeadRun.topDef (OpenLaw.row PySem.Challenge.rw_coastersafe_k07_rolls).prog 42).name = ("law" : PySem.Str) := by kernel_rfl
      rw [← e]
      exact hmg0
    have T := Gk07.txt KX G c
    have e := hmg.symm.trans T.g_law
    cases e
    obtain ⟨fd, hb, hF⟩ := Gk07.ok_law (P0 := (PySem.Challenge.rw_coastersafe_k07_rolls).prog) (w := w) T
    exact ⟨K, fd, _, KX, hb, fun H a ns hl _ hS => Z.sp_law hlaw H a ns hl hS, fun base _ _ => hF base⟩
end
-- part M07
section
set_option Elab.async false
set_option linter.all false
set_option maxRecDepth 100000
set_option autoImplicit false
namespace Gk07
open PySem PySem.Spec PyProof.Rows L2 Z
theorem cell_ok (ns : List Int) (k : Nat) : ∃ c : Int, 0 ≤ c ∧ m_l_cell [.scr ns, .int k] = .ok (.int c) := by
  unfold m_l_cell
  by_cases h : (k : Int) < ns.length
  · have e := atI_gi (xs := ns) (i := k) (by omega) h
    refine ⟨if gi ns k < 0 then -gi ns k else gi ns k, by split <;> omega, ?_⟩
    simp [runP_ap, envOf_ap, h, e]
  · exact ⟨0, by omega, by simp [runP_ap, envOf_ap, h]⟩
def JDraws (c : Int) (n : Nat) (k : Nat) (ρ : Z.Env) (S : Store) : Prop := ∃ (acc : List Int) (left : Int) (kk mx : Option W),
  ρ = [some (.val (.int c)), some (.val (.int n)), some (.loc 0), some (.val (.int left)), kk, mx] ∧ S = [.lst (acc.map fun d => .val (.int d))] ∧ acc.length = k ∧ ∀ d ∈ acc, 0 ≤ d ∧ d < 4096
theorem draws_ok (c : Int) (n : Nat) (hc : 0 ≤ c) (hn : n ≤ 1000) : ∃ ds : List Int, ds.length = n ∧ (∀ d ∈ ds, 0 ≤ d ∧ d < 4096) ∧ m_l_draws [.int c, .int n] = .ok (.lst (ds.map .int)) := by
  have L := forGo_rngJ (JDraws c n) (t := .nm 4) (body := m_l_draws_b1) (lo := 0) (n := n) (ρ := [some (.val (.int c)), some (.val (.int n)), some (.loc 0), some (.val (.int c)), none, none]) (S := [.lst []]) ?_ ⟨[], c, none, none, rfl, rfl, rfl, by simp⟩
  · obtain ⟨_, _, e, acc, left, kk, mx, rfl, rfl, hl, hd⟩ := L
    refine ⟨acc, hl, hd, ?_⟩
    unfold m_l_draws
    have r : rngOk 0 n = true := rngOk_of (by omega) (by omega) (by omega) (by omega)
    simp [runP_ap, envOf_ap, r, e]
  · rintro k ρ S hk ⟨acc, left, kk, mx, rfl, rfl, hl, hd⟩
    have hl2 : acc.length < 100000 := by omega
    simp (disch := omega) [m_l_draws_b1, mulOk_c, hl2]
    split
    · split
      · refine ⟨_, _, rfl, acc ++ [_], _, _, _, rfl, by rw [List.map_append] <;> rfl, by simp [hl], fun d h => ?_⟩
        simp only [List.mem_append, List.mem_cons, List.not_mem_nil, or_false] at h
        rcases h with h | rfl
        · exact hd d h
        · omega
      · refine ⟨_, _, rfl, acc ++ [_], _, _, _, rfl, by rw [List.map_append] <;> rfl, by simp [hl], fun d h => ?_⟩
        simp only [List.mem_append, List.mem_cons, List.not_mem_nil, or_false] at h
        rcases h with h | rfl
        · exact hd d h
        · omega
    · refine ⟨_, _, rfl, acc ++ [_], _, _, _, rfl, by rw [List.map_append] <;> rfl, by simp [hl], fun d h => ?_⟩
      simp only [List.mem_append, List.mem_cons, List.not_mem_nil, or_false] at h
      rcases h with h | rfl
      · exact hd d h
      · omega
end Gk07
end
-- part M07b
section
set_option Elab.async false
set_option linter.all false
set_option maxRecDepth 100000
set_option autoImplicit false
namespace Gk07
open PySem PySem.Spec PyProof.Rows L2 Z
structure Seg where
  kind : Str
  len : Int
  slope : Int
def segP (s : Seg) : P := .tup [.str s.kind, .int s.len, .int s.slope]
structure SegOk (s : Seg) : Prop where
  k : s.kind = "coast" ∨ s.kind = "lift" ∨ s.kind = "brake"
  l1 : 1 ≤ s.len
  l2 : s.len ≤ 500
  s1 : -100 ≤ s.slope
  s2 : s.slope ≤ 100
def nBr (rows : List Seg) : Nat := (rows.filter fun s => decide (s.kind = ("brake" : Str))).length
def tot (rows : List Seg) : Int := (rows.map Seg.len).sum
structure Rows (rows : List Seg) (nb : Nat) (t : Int) : Prop where
  ok : ∀ s ∈ rows, SegOk s
  nb : nBr rows = nb
  t : tot rows ≤ t
theorem tot_len : ∀ {rows : List Seg}, (∀ s ∈ rows, SegOk s) → (rows.length : Int) ≤ tot rows
  | [], _ => by simp [tot]
  | s :: r, h => by
    have a := tot_len (rows := r) fun s hs => h s (List.mem_cons_of_mem _ hs)
    have b := (h s List.mem_cons_self).l1
    simp only [tot, List.map_cons, List.sum_cons, List.length_cons] at a ⊢
    push_cast
    omega
theorem Rows.nil : Rows [] 0 0 := ⟨by simp, rfl, by simp [tot]⟩
@[simp] theorem nBr_app (a b : List Seg) : nBr (a ++ b) = nBr a + nBr b := by simp [nBr, List.filter_append]
@[simp] theorem tot_app (a b : List Seg) : tot (a ++ b) = tot a + tot b := by simp [tot]
@[simp] theorem tot_one (s : Seg) : tot [s] = s.len := by simp [tot]
theorem nBr_one (s : Seg) (h : s.kind = ("brake" : Str)) : nBr [s] = 1 := by simp [nBr, h]
theorem nBr_non (s : Seg) (h : s.kind ≠ ("brake" : Str)) : nBr [s] = 0 := by simp [nBr, h]
theorem Rows.snoc {rows : List Seg} {nb : Nat} {t t' : Int} {s : Seg} (h : Rows rows nb t) (hs : SegOk s) (ht : t + s.len ≤ t') (hk : s.kind ≠ "brake") : Rows (rows ++ [s]) nb t' :=
  ⟨fun x hx => by
    rcases List.mem_append.mp hx with q | q
    · exact h.ok x q
    · rw [List.mem_singleton.mp q]; exact hs, by rw [nBr_app, nBr_non s hk, h.nb, Nat.add_zero], by
    have := h.t
    rw [tot_app, tot_one]; omega⟩
theorem Rows.brake {rows : List Seg} {nb : Nat} {t t' : Int} {s : Seg} (h : Rows rows nb t) (hs : SegOk s) (ht : t + s.len ≤ t') (hk : s.kind = "brake") : Rows (rows ++ [s]) (nb + 1) t' :=
  ⟨fun x hx => by
    rcases List.mem_append.mp hx with q | q
    · exact h.ok x q
    · rw [List.mem_singleton.mp q]; exact hs, by rw [nBr_app, nBr_one s hk, h.nb], by
    have := h.t
    rw [tot_app, tot_one]; omega⟩
theorem Rows.ins {rows : List Seg} {nb : Nat} {t t' : Int} {s : Seg} (h : Rows rows nb t) (i : Nat) (hs : SegOk s) (ht : t + s.len ≤ t') (hk : s.kind ≠ "brake") : Rows (rows.take i ++ [s] ++ rows.drop i) nb t' :=
  ⟨fun x hx => by
    simp only [List.mem_append, List.mem_singleton] at hx
    rcases hx with (q | q) | q
    · exact h.ok x (List.mem_of_mem_take q)
    · rw [q]; exact hs
    · exact h.ok x (List.mem_of_mem_drop q), by
    have e : nBr rows = nBr (rows.take i) + nBr (rows.drop i) := by rw [← nBr_app, List.take_append_drop]
    rw [nBr_app, nBr_app, nBr_non s hk, ← h.nb, e]; omega, by
    have := h.t
    have e : tot rows = tot (rows.take i) + tot (rows.drop i) := by rw [← tot_app, List.take_append_drop]
    rw [tot_app, tot_app, tot_one]; omega⟩
def lastBr (rows : List Seg) : Prop := ∃ r s, rows = r ++ [s] ∧ s.kind = ("brake" : Str)
theorem lastBr.ins {rows : List Seg} (h : lastBr rows) {i : Nat} (hi : i < rows.length) (s : Seg) : lastBr (rows.take i ++ [s] ++ rows.drop i) := by
  obtain ⟨r, b, rfl, hb⟩ := h
  have hi2 : i ≤ r.length := by simp at hi; omega
  exact ⟨r.take i ++ [s] ++ r.drop i, b, by rw [List.take_append_of_le_length hi2, List.drop_append_of_le_length hi2]; simp, hb⟩
structure Dr (ds : List Int) (n : Nat) : Prop where
  l : ds.length = n
  b : ∀ d ∈ ds, 0 ≤ d ∧ d < 4096
theorem Dr.at {ds : List Int} {n : Nat} (h : Dr ds n) {i : Int} (h0 : 0 ≤ i) (h1 : i < n) : atI ds i = some (gi ds i) := atI_gi h0 (by rw [h.l]; exact h1)
theorem Dr.r {ds : List Int} {n : Nat} (h : Dr ds n) {i : Int} (h0 : 0 ≤ i) (h1 : i < n) : 0 ≤ gi ds i ∧ gi ds i < 4096 := h.b _ (gi_mem h0 (by rw [h.l]; exact h1))
theorem kd_ex (x : Int) : ∃ kd : Str, (kd = "coast" ∨ kd = "lift") ∧ atI [P.str "coast", P.str "coast", P.str "lift"] (x % 3) = some (.str kd) := by
  have : x % 3 = 0 ∨ x % 3 = 1 ∨ x % 3 = 2 := by omega
  rcases this with h | h | h <;> rw [h]
  · exact ⟨_, .inl rfl, rfl⟩
  · exact ⟨_, .inl rfl, rfl⟩
  · exact ⟨_, .inr rfl, rfl⟩
/-- the rows of the loops -/
def JB1 (ds : List Int) (cnt : Int) (b : Nat) (k : Nat) (ρ : Z.Env) (S : Store) : Prop := ∃ (rows : List Seg) (h : Int) (o6 o7 o8 o9 o10 o11 : Option W),
  ρ = [some (.val (.lst (ds.map .int))), some (.val (.int 5)), some (.val (.int cnt)), some (.loc 0), some (.val (.int h)), some (.val (.int b)), o6, o7, o8, o9, o10, o11, none] ∧
  S = [.lst (rows.map fun s => .val (segP s))] ∧ Rows rows b (16 * b + 5 * k)
def JB2 (ds : List Int) (cnt : Int) (b : Nat) (ρ : Z.Env) (S : Store) : Prop := ∃ (rows : List Seg) (h : Int) (o5 o6 o7 o8 o9 o10 o11 : Option W),
  ρ = [some (.val (.lst (ds.map .int))), some (.val (.int 5)), some (.val (.int cnt)), some (.loc 0), some (.val (.int h)), o5, o6, o7, o8, o9, o10, o11, none] ∧
  S = [.lst (rows.map fun s => .val (segP s))] ∧ Rows rows b (16 * b) ∧ (0 < b → lastBr rows)
theorem b1_ok {ds : List Int} (hd : Dr ds 30) (cnt : Int) (b : Nat) (hb : b < 3) (m : Nat) (hm : m ≤ 2) : ∀ (k : Nat) ρ S, k < m → JB1 ds cnt b k ρ S → ((bindR (bindT (.nm 6) (.int (0 + (k : Int))) ρ) S).seq m_l_drawn_segments_b1).goes (JB1 ds cnt b (k + 1)) := by
  rintro k _ _ hk ⟨rows, h, o6, o7, o8, o9, o10, o11, rfl, rfl, hr⟩
  have e := hd.at (i := 4 + 3 * (b : Int) + k) (by omega) (by omega)
  have r := hd.r (i := 4 + 3 * (b : Int) + k) (by omega) (by omega)
  generalize gi ds (4 + 3 * (b : Int) + k) = d at e r
  obtain ⟨kd, hk2, ek⟩ := kd_ex d
  have hl : rows.length < 100000 := by
    have := tot_len hr.ok; have := hr.t; omega
  simp (disch := omega) [m_l_drawn_segments_b1, mulOk_c, mulOk_d, e, ek, hl]
  refine ⟨rows ++ [⟨kd, 1 + d / 200 % 5, d / 3 % 61 - 30⟩], _, _, _, _, _, _, _, rfl, by rw [List.map_append] <;> rfl, ?_⟩
  refine hr.snoc ⟨?_, ?_, ?_, ?_, ?_⟩ ?_ ?_
  · rcases hk2 with q | q
    · exact .inl q
    · exact .inr (.inl q)
  all_goals simp only [] <;> first | omega | skip
  rcases hk2 with q | q <;> simp [q]
theorem b2_ok {ds : List Int} (hd : Dr ds 30) (cnt : Int) (n : Nat) (hn : n ≤ 3) : ∀ (k : Nat) ρ S, k < n → JB2 ds cnt k ρ S → ((bindR (bindT (.nm 5) (.int (0 + (k : Int))) ρ) S).seq m_l_drawn_segments_b2).goes (JB2 ds cnt (k + 1)) := by
  rintro k _ _ hk ⟨rows, h, o5, o6, o7, o8, o9, o10, o11, rfl, rfl, hr, hlb⟩
  have e1 := hd.at (i := 1 + k) (by omega) (by omega)
  have r1 := hd.r (i := 1 + k) (by omega) (by omega)
  generalize gi ds (1 + k) = d1 at e1 r1
  have e2 := hd.at (i := 17 + k) (by omega) (by omega)
  have r2 := hd.r (i := 17 + k) (by omega) (by omega)
  generalize gi ds (17 + k) = d2 at e2 r2
  have e3 := hd.at (i := 14 + k) (by omega) (by omega)
  have r3 := hd.r (i := 14 + k) (by omega) (by omega)
  generalize gi ds (14 + k) = d3 at e3 r3
  have L := for_rng (JB1 ds cnt k) (lo := 0) (n := (d1 % 3).toNat) (b1_ok hd cnt k (by omega) _ (by omega)) (ρ := [some (.val (.lst (ds.map .int))), some (.val (.int 5)), some (.val (.int cnt)), some (.loc 0), some (.val (.int h)), some (.val (.int k)), o6, o7, o8, o9, o10, o11, none])
    (S := [.lst (rows.map fun s => .val (segP s))]) ⟨rows, h, _, _, _, _, _, _, rfl, rfl, by simpa using hr⟩
  obtain ⟨_, _, eL, rows2, h2, p6, p7, p8, p9, p10, p11, rfl, rfl, hr2⟩ := L
  have hl : rows2.length < 100000 := by
    have := tot_len hr2.ok; have := hr2.t; omega
  have ert : rngOk 0 (d1 % 3) = true := rngOk_of (by omega) (by omega) (by omega) (by omega)
  have lastat : ∀ w : W, atI (rows2.map (fun s => W.val (segP s)) ++ [w]) (-1) = some w := fun w => atI_last _ _
  simp (disch := omega) [m_l_drawn_segments_b2, mulOk_c, mulOk_d, e1, e2, e3, ert, eL, hl, ixW_loc, lastat]
  refine ⟨rows2 ++ [⟨"brake", 1 + d3 % 6, d2 % 5 - 2⟩], _, _, _, _, _, _, _, _, rfl, by rw [List.map_append] <;> rfl, ?_, fun _ => ⟨rows2, _, rfl, rfl⟩⟩
  refine hr2.brake ⟨.inr (.inr rfl), ?_, ?_, ?_, ?_⟩ ?_ rfl
  all_goals simp only [] <;> first | omega | skip
def JB3 (ds : List Int) (cnt : Int) (nb : Nat) (k : Nat) (ρ : Z.Env) (S : Store) : Prop := ∃ (rows : List Seg) (h left : Int) (o5 o6 o7 o8 o9 o10 o11 : Option W),
  ρ = [some (.val (.lst (ds.map .int))), some (.val (.int 5)), some (.val (.int cnt)), some (.loc 0), some (.val (.int h)), o5, o6, o7, o8, o9, o10, o11, some (.val (.int left))] ∧
  S = [.lst (rows.map fun s => .val (segP s))] ∧ Rows rows nb (500 + k) ∧ lastBr rows
theorem kd2_ex (c : Prop) [Decidable c] : ∃ kd : Str, (kd = "coast" ∨ kd = "lift") ∧ atI [P.str "coast", P.str "lift"] (if c then 1 else 0) = some (.str kd) := by
  split
  · exact ⟨_, .inr rfl, rfl⟩
  · exact ⟨_, .inl rfl, rfl⟩
theorem kd3_ex (kd : Str) (x : Int) (h : kd = "coast" ∨ kd = "lift") : ∃ kd' : Str, (kd' = "coast" ∨ kd' = "lift") ∧ atI [P.str kd, P.str "coast"] (x % 2) = some (.str kd') := by
  have : x % 2 = 0 ∨ x % 2 = 1 := by omega
  rcases this with q | q <;> rw [q]
  · exact ⟨_, h, rfl⟩
  · exact ⟨_, .inl rfl, rfl⟩
theorem b3_ok {ds : List Int} (hd : Dr ds 30) (cnt : Int) (nb : Nat) : ∀ (k : Nat) ρ S, k < 40 → JB3 ds cnt nb k ρ S → ((bindR (bindT (.nm 6) (.int (0 + (k : Int))) ρ) S).seq m_l_drawn_segments_b3).goes (JB3 ds cnt nb (k + 1)) := by
  rintro k _ _ hk ⟨rows, h, left, o5, o6, o7, o8, o9, o10, o11, rfl, rfl, hr, hlb⟩
  have e1 := hd.at (i := 21) (by omega) (by omega)
  generalize gi ds 21 = d1 at e1
  have hl : rows.length < 100000 := by
    have := tot_len hr.ok; have := hr.t; omega
  obtain ⟨sl, hs, hs1, hs2⟩ : ∃ sl : Int, (if -90 < if left < 90 then left else 90 then if left < 90 then left else 90 else -90) = sl ∧ -90 ≤ sl ∧ sl ≤ 90 := ⟨_, rfl, by split <;> split <;> omega, by split <;> split <;> omega⟩
  obtain ⟨kd, hk2, ek⟩ := kd2_ex (0 < sl)
  obtain ⟨kd', hk3, ek'⟩ := kd3_ex kd d1 hk2
  simp (disch := omega) [m_l_drawn_segments_b3, mulOk_c, mulOk_d, e1, hl, hs, ek, ek']
  have hins : Rows ([] ++ [⟨kd', 1, sl⟩] ++ rows) nb (500 + (k + 1)) := by
    have := hr.ins (t' := 500 + (k + 1)) 0 (s := ⟨kd', 1, sl⟩) ⟨?_, ?_, ?_, ?_, ?_⟩ ?_ ?_
    · simpa using this
    · rcases hk3 with q | q
      · exact .inl q
      · exact .inr (.inl q)
    all_goals simp only [] <;> first | omega | skip
    rcases hk3 with q | q <;> simp [q]
  split
  · exact ⟨rows, _, _, _, _, _, _, _, _, _, rfl, rfl, ⟨hr.ok, hr.nb, by have := hr.t; push_cast; omega⟩, hlb⟩
  · refine ⟨⟨kd', 1, sl⟩ :: rows, _, _, _, _, _, _, _, _, _, rfl, rfl, by simpa using hins, ?_⟩
    obtain ⟨r, b, rfl, hb⟩ := hlb
    exact ⟨_ :: r, b, rfl, hb⟩
theorem len5 (x : Int) : ∃ l : Int, 1 ≤ l ∧ l ≤ 300 ∧ atI [P.int 1, P.int 1, P.int 1, P.int 1, P.int 300] (x % 5) = some (.int l) := by
  have : x % 5 = 0 ∨ x % 5 = 1 ∨ x % 5 = 2 ∨ x % 5 = 3 ∨ x % 5 = 4 := by omega
  rcases this with q | q | q | q | q <;> rw [q]
  · exact ⟨1, by omega, by omega, rfl⟩
  · exact ⟨1, by omega, by omega, rfl⟩
  · exact ⟨1, by omega, by omega, rfl⟩
  · exact ⟨1, by omega, by omega, rfl⟩
  · exact ⟨300, by omega, by omega, rfl⟩
theorem segments_ok {ds : List Int} (hd : Dr ds 30) : ∃ rows nb, m_l_drawn_segments [.lst (ds.map .int), .int 5] = .ok (.lst (rows.map segP)) ∧ Rows rows nb 540 ∧ lastBr rows ∧ 2 ≤ nb ∧ nb ≤ 3 := by
  have e0 := hd.at (i := 0) (by omega) (by omega)
  have e1 := hd.at (i := 20) (by omega) (by omega)
  have r1 := hd.r (i := 20) (by omega) (by omega)
  have e2 := hd.at (i := 22) (by omega) (by omega)
  generalize gi ds 0 = d0 at e0
  generalize gi ds 20 = d1 at e1 r1
  generalize gi ds 22 = d2 at e2
  obtain ⟨n, hn, hn1, hn2⟩ : ∃ n : Nat, 2 + d0 % 2 = (n : Int) ∧ 2 ≤ n ∧ n ≤ 3 := ⟨(2 + d0 % 2).toNat, by omega, by omega, by omega⟩
  obtain ⟨l5, h51, h52, e5⟩ := len5 d2
  obtain ⟨_, _, eL, rows, h, o5, o6, o7, o8, o9, o10, o11, rfl, rfl, hr, hlb⟩ := for_rng (JB2 ds n) (lo := 0) (n := n) (b2_ok hd n n hn2) (ρ := [some (.val (.lst (ds.map .int))), some (.val (.int 5)), some (.val (.int n)), some (.loc 0), some (.val (.int 0)), none, none, none, none, none, none, none, none])
    (S := [.lst []]) ⟨[], 0, _, _, _, _, _, _, _, rfl, rfl, Rows.nil, fun h => absurd h (by omega)⟩
  have hlb := hlb (by omega)
  have hl : rows.length < 100000 := by
    have := tot_len hr.ok; have := hr.t; omega
  have hpos : 0 < rows.length := by
    obtain ⟨r, b, rfl, _⟩ := hlb; simp
  have hi0 : 0 ≤ d1 % (rows.length : Int) := Int.emod_nonneg _ (by omega)
  have hi1 : d1 % (rows.length : Int) < rows.length := Int.emod_lt_of_pos _ (by omega)
  have hz : ¬ (rows.length : Int) = 0 := by omega
  have ert : rngOk 0 (n : Int) = true := rngOk_of (by omega) (by omega) (by omega) (by omega)
  have ert40 : rngOk 0 40 = true := rngOk_of (by omega) (by omega) (by omega) (by omega)
  unfold m_l_drawn_segments
  simp (disch := omega) [runP_ap, envOf_ap, mulOk_c, mulOk_d, e0, e1, e2, hn, ert, eL, e5, hl, hz, ert40]
  rw [if_pos hpos, if_pos ⟨hi0, by omega⟩]
  have hins := hr.ins (t' := 500) (d1 % (rows.length : Int)).toNat (s := ⟨"coast", l5, 0⟩) ⟨.inl rfl, h51, by simp only []; omega, by simp only []; omega, by simp only []; omega⟩ (by simp only []; omega) (by simp)
  have hlb2 := hlb.ins (i := (d1 % (rows.length : Int)).toNat) (by omega) ⟨"coast", l5, 0⟩
  obtain ⟨_, _, eL3, rows3, h3, left3, q5, q6, q7, q8, q9, q10, q11, rfl, rfl, hr3, hlb3⟩ := for_rng (JB3 ds n n) (lo := 0) (n := 40) (b3_ok hd n n) (ρ := [some (.val (.lst (ds.map .int))), some (.val (.int 5)), some (.val (.int n)), some (.loc 0), some (.val (.int h)), o5, o6, o7, o8, o9, o10, o11, some (.val (.int (-h)))])
    (S := [Cell.lst (List.take (d1 % ↑rows.length).toNat (List.map (fun s => W.val (segP s)) rows) ++ W.val (P.tup [P.str (Str.ofString "coast"), P.int l5, P.int 0]) :: List.drop (d1 % ↑rows.length).toNat (List.map (fun s => W.val (segP s)) rows))])
    ⟨rows.take (d1 % (rows.length : Int)).toNat ++ [⟨"coast", l5, 0⟩] ++ rows.drop (d1 % (rows.length : Int)).toNat, h, -h, _, _, _, _, _, _, _, rfl, by simp [List.map_take, List.map_drop, segP], by simpa using hins, by simpa using hlb2⟩
  refine ⟨rows3, ?_, n, ⟨hr3.ok, hr3.nb, by have := hr3.t; omega⟩, hlb3, hn1, hn2⟩
  rw [eL3]
  simp
end Gk07
end
-- part M07c
section
set_option Elab.async false
set_option linter.all false
set_option maxRecDepth 100000
set_option autoImplicit false
namespace Gk07
open PySem PySem.Spec PyProof.Rows L2 Z
def hgt (rows : List Seg) : Int := (rows.map fun s => s.len * s.slope).sum
structure Lay (rows : List Seg) : Prop where
  ok : ∀ s ∈ rows, SegOk s
  n1 : 2 ≤ nBr rows
  n2 : nBr rows ≤ 12
  t : tot rows ≤ 4000
  h : hgt rows = 0
  l : lastBr rows
theorem mul_seg {s : Seg} (h : SegOk s) : mulOk s.len s.slope = true := by
  have := h.l1; have := h.l2
  exact mulOk_d (by omega)
theorem lay_len {rows : List Seg} (h : ∀ s ∈ rows, SegOk s) (ht : tot rows ≤ 4000) : rows.length ≤ 4000 := by
  have := tot_len h; omega
theorem layout_ok {ds : List Int} (hd : Dr ds 30) : ∃ rows, Lay rows ∧ m_l_drawn_layout [.lst (ds.map .int)] = .ok (.lst (rows.map segP)) := by
  obtain ⟨rows, nb, e, hr, hl, h1, h2⟩ := segments_ok hd
  have hlen : rows.length ≤ 100000 := by
    have := lay_len hr.ok (by have := hr.t; omega); omega
  have el : ∀ (a b : Option W), lcGo [3, 4, 5] (.tp [.nm 3, .nm 4, .nm 5]) cYes (eBin mulW (eVar 4) (eVar 5)) [some (.val (.lst (ds.map .int))), some (.val (.lst (rows.map segP))), none, none, none, none] (rows.map segP) [] = .ok (rows.map fun s => .int (s.len * s.slope)) [] :=
    fun a b => lcGo_map segP _ (fun s hs => ⟨_, by simp [segP]; rfl, by simp [mul_seg (hr.ok s hs)]⟩)
  by_cases hz : hgt rows = 0
  · refine ⟨rows, ⟨hr.ok, by rw [hr.nb]; exact h1, by rw [hr.nb]; omega, by have := hr.t; omega, hz, hl⟩, ?_⟩
    unfold hgt at hz
    simp [m_l_drawn_layout, runP_ap, envOf_ap, e, el none none, hlen, hz]
  · refine ⟨[⟨"lift", 6, 25⟩, ⟨"coast", 5, -30⟩, ⟨"brake", 3, 0⟩, ⟨"coast", 3, 0⟩, ⟨"brake", 4, 0⟩], ⟨?_, by decide, by decide, by decide, by decide, ⟨[⟨"lift", 6, 25⟩, ⟨"coast", 5, -30⟩, ⟨"brake", 3, 0⟩, ⟨"coast", 3, 0⟩], _, rfl, rfl⟩⟩, ?_⟩
    · intro s hs
      simp at hs
      rcases hs with rfl | rfl | rfl | rfl | rfl <;> exact ⟨by simp, by simp, by simp, by simp, by simp⟩
    · unfold hgt at hz
      simp [m_l_drawn_layout, runP_ap, envOf_ap, e, el none none, hlen, hz, segP]
/-! metres -/
def brN (s : Seg) : Int := if s.kind = ("brake" : Str) then 1 else 0
abbrev Mt := Str × Int × Int
def metP (m : Mt) : P := .tup [.str m.1, .int m.2.1, .int m.2.2]
def metresL : Int → List Seg → List Mt
  | _, [] => []
  | b, s :: r => List.replicate s.len.toNat (s.kind, s.slope, b) ++ metresL (b + brN s) r
theorem metres_len : ∀ (b : Int) {rows : List Seg}, (∀ s ∈ rows, SegOk s) → ((metresL b rows).length : Int) = tot rows
  | _, [], _ => by simp [metresL, tot]
  | b, s :: r, h => by
    have a := metres_len (b + brN s) (rows := r) fun s hs => h s (List.mem_cons_of_mem _ hs)
    have q := (h s List.mem_cons_self).l1
    simp only [metresL, List.length_append, List.length_replicate]
    simp only [tot, List.map_cons, List.sum_cons] at a ⊢
    push_cast
    omega
def JM (rows : List Seg) (r : List Seg) (ρ : Z.Env) (S : Store) : Prop := ∃ (ms : List Mt) (b : Int) (o3 o4 o5 o6 : Option W), ρ = [some (.val (.lst (rows.map segP))), some (.loc 0), some (.val (.int b)), o3, o4, o5, o6] ∧
  S = [.lst (ms.map fun m => .val (metP m))] ∧ ms ++ metresL b r = metresL 0 rows ∧ ∀ s ∈ r, SegOk s
def JM1 (rows : List Seg) (s : Seg) (ms0 : List Mt) (b : Int) (k : Nat) (ρ : Z.Env) (S : Store) : Prop := ∃ (o6 : Option W), ρ = [some (.val (.lst (rows.map segP))), some (.loc 0), some (.val (.int b)), some (.val (.str s.kind)), some (.val (.int s.len)), some (.val (.int s.slope)), o6] ∧
  S = [.lst ((ms0 ++ List.replicate k (s.kind, s.slope, b)).map fun m => .val (metP m))]
theorem metres_ok {rows : List Seg} (h : Lay rows) : m_l_metres [.lst (rows.map segP)] = .ok (.lst ((metresL 0 rows).map metP)) := by
  have hml := metres_len 0 h.ok
  have ht := h.t
  obtain ⟨_, _, eL, ms, b, o3, o4, o5, o6, rfl, rfl, hms, _⟩ := for_lst segP (JM rows) (t := .tp [.nm 3, .nm 4, .nm 5]) (body := m_l_metres_b2) (by
    rintro s r _ _ ⟨ms, b, o3, o4, o5, o6, rfl, rfl, hms, hok⟩
    have hs := hok s List.mem_cons_self
    have hl1 := hs.l1
    have hl2 := hs.l2
    have hm0 : (ms ++ metresL b (s :: r)).length = (metresL 0 rows).length := by rw [hms]
    obtain ⟨_, _, e1, p6, rfl, rfl⟩ := for_rng (JM1 rows s ms b) (t := .nm 6) (body := m_l_metres_b1) (lo := 0) (n := s.len.toNat) (by
      rintro k _ _ hk ⟨o6, rfl, rfl⟩
      have hlen : ms.length + k < 100000 := by
        simp only [metresL, List.length_append, List.length_replicate] at hm0
        omega
      simp (disch := omega) [m_l_metres_b1, hlen]
      exact ⟨_, rfl, by simp [List.replicate_succ', metP]⟩) (ρ := [some (.val (.lst (rows.map segP))), some (.loc 0), some (.val (.int b)), some (.val (.str s.kind)), some (.val (.int s.len)), some (.val (.int s.slope)), o6]) (S := [.lst (ms.map fun m => .val (metP m))]) ⟨_, rfl, by simp⟩
    have ert : rngOk 0 s.len = true := rngOk_of (by omega) (by omega) (by omega) (by omega)
    simp (disch := omega) [segP, m_l_metres_b2, ert, e1]
    refine ⟨ms ++ List.replicate s.len.toNat (s.kind, s.slope, b), b + brN s, _, _, _, _, rfl, by simp, ?_, fun s hs => hok s (List.mem_cons_of_mem _ hs)⟩
    rw [← hms, metresL, List.append_assoc]) (xs := rows) (ρ := [some (.val (.lst (rows.map segP))), some (.loc 0), some (.val (.int 0)), none, none, none, none]) (S := [.lst []]) ⟨[], 0, _, _, _, _, rfl, rfl, rfl, h.ok⟩
  simp only [metresL, List.append_nil] at hms
  subst hms
  simp [m_l_metres, runP_ap, envOf_ap, eL]
end Gk07
end
-- part M07d
section
set_option Elab.async false
set_option linter.all false
set_option maxRecDepth 100000
set_option autoImplicit false
namespace Gk07
open PySem PySem.Spec PyProof.Rows L2 Z
theorem check_ok {rows : List Seg} (h : Lay rows) : m_check_segments [.lst (rows.map segP)] = .ok .non := by
  have hlen := lay_len h.ok h.t
  have hlen5 : rows.length ≤ 100000 := by omega
  obtain ⟨_, _, eL, o1, o2, o3, o4, rfl, rfl, _⟩ := for_lst segP (fun r (ρ : Z.Env) S => ∃ (o1 o2 o3 o4 : Option W), ρ = [some (.val (.lst (rows.map segP))), o1, o2, o3, o4] ∧ S = [] ∧ ∀ s ∈ r, SegOk s) (t := .tp [.nm 1, .nm 2, .nm 3]) (body := m_check_segments_b1) (by
    rintro s r _ _ ⟨o1, o2, o3, o4, rfl, rfl, hok⟩
    have hs := hok s List.mem_cons_self
    have hk : s.kind = "coast" ∨ s.kind = "lift" ∨ s.kind = "brake" := hs.k
    have h1 := hs.l1
    have h2 := hs.l2
    have h3 := hs.s1
    have h4 := hs.s2
    rcases hk with q | q | q <;> simp [segP, m_check_segments_b1, q, h1, h2, h3, h4] <;> exact fun s hs => hok s (List.mem_cons_of_mem _ hs)) (xs := rows) (ρ := [some (.val (.lst (rows.map segP))), none, none, none, none]) (S := []) ⟨_, _, _, _, rfl, rfl, h.ok⟩
  have e1 : ∀ (a b c : Option W), lcGo [4, 2] (.tp [.nm 4, .nm 2, .nm 4]) cYes (eVar 2) [some (.val (.lst (rows.map segP))), a, b, c, o4] (rows.map segP) [] = .ok (rows.map fun s => .int s.len) [] :=
    fun a b c => lcGo_map segP _ fun s hs => ⟨_, by simp [segP]; rfl, by simp⟩
  have e2 : ∀ (a b c : Option W), lcGo [4, 2, 3] (.tp [.nm 4, .nm 2, .nm 3]) cYes (eBin mulW (eVar 2) (eVar 3)) [some (.val (.lst (rows.map segP))), a, b, c, o4] (rows.map segP) [] = .ok (rows.map fun s => .int (s.len * s.slope)) [] :=
    fun a b c => lcGo_map segP _ fun s hs => ⟨_, by simp [segP]; rfl, by simp [mul_seg (h.ok s hs)]⟩
  have e3 : ∀ (a b c : Option W), lcGo [1, 4] (.tp [.nm 1, .nm 4, .nm 4]) (tstB (eBin (eqW false) (eVar 1) (eCst (.str "brake")))) (eVar 1) [some (.val (.lst (rows.map segP))), a, b, c, o4] (rows.map segP) [] = .ok ((rows.filter fun s => decide (s.kind = ("brake" : Str))).map fun s => .str s.kind) [] :=
    fun a b c => lcGo_filter segP _ _ fun s hs => ⟨_, by simp [segP]; rfl, by simp, by simp⟩
  have h1 := h.t
  have h2 := h.h
  have h3 := h.n1
  have h4 := h.n2
  unfold tot at h1
  unfold hgt at h2
  unfold nBr at h3 h4
  have h1' : ¬ 4000 < (rows.map Seg.len).sum := by omega
  obtain ⟨r, b, hrb, hb⟩ := h.l
  have hz : rows.length ≠ 0 := by rw [hrb]; simp
  have hat : atI (rows.map segP) (-1) = some (segP b) := by rw [hrb, List.map_append]; exact atI_last _ _
  have hat2 : atI rows (-1) = some b := by rw [hrb]; exact atI_last _ _
  have hz2 : ¬ ((rows.length : Int) = 0) := by omega
  have h1'' : ¬ 4000 < (rows.map fun s => s.len).sum := h1'
  simp [m_check_segments, runP_ap, envOf_ap, eL, e1, e2, e3, hlen5, h1'', h2, hz, hat2, segP, hb]
  rw [if_pos (by omega), if_neg (by omega)]
/-! Layout -/
def isBr (s : Seg) : Bool := decide (s.kind = ("brake" : Str))
def beginsL : Int → List Seg → List Int
  | _, [] => []
  | m, s :: r => (if isBr s then [m + s.len] else []) ++ beginsL (m + s.len) r
def brakesL : Int → List Seg → List Int
  | _, [] => []
  | m, s :: r => (if isBr s then [m] else []) ++ brakesL (m + s.len) r
def upL (h sl : Int) : Nat → List Int
  | 0 => []
  | n + 1 => upL h sl n ++ [h + (n + 1) * sl]
def heightsL : Int → List Seg → List Int
  | _, [] => []
  | h, s :: r => upL h s.slope s.len.toNat ++ heightsL (h + s.len * s.slope) r
theorem upL_len (h sl : Int) : ∀ n, (upL h sl n).length = n
  | 0 => rfl
  | n + 1 => by simp [upL, upL_len h sl n]
def NSL : List Str := ["segments", "metres", "begins", "brakes", "heights"]
def layP (rows : List Seg) : P := .obj "Layout" NSL [.tup (rows.map segP), .lst ((metresL 0 rows).map metP), .lst ((0 :: beginsL 0 rows).map .int), .lst ((brakesL 0 rows).map .int), .lst ((0 :: heightsL 0 rows).map .int)]
def stL (rows : List Seg) (ms : List Mt) (bs br hs : List Int) : Store := [.ins "Layout" NSL [.val (.tup (rows.map segP)), .loc 1, .loc 2, .loc 3, .loc 4], .lst (ms.map fun m => .val (metP m)), .lst (bs.map fun i => .val (.int i)), .lst (br.map fun i => .val (.int i)), .lst (hs.map fun i => .val (.int i))]
def JL (rows : List Seg) (r : List Seg) (ρ : Z.Env) (S : Store) : Prop := ∃ (ms : List Mt) (bs br hp : List Int) (h : Int) (b : Nat) (o2 o3 o4 o5 o6 : Option W),
  ρ = [some (.loc 0), some (.val (.lst (rows.map segP))), o2, o3, o4, o5, o6] ∧ S = stL rows ms bs br (hp ++ [h]) ∧
  (∀ s ∈ r, SegOk s) ∧ ms ++ metresL b r = metresL 0 rows ∧ bs ++ beginsL ms.length r = 0 :: beginsL 0 rows ∧ br ++ brakesL ms.length r = brakesL 0 rows ∧ hp ++ [h] ++ heightsL h r = 0 :: heightsL 0 rows ∧
  bs.length = b + 1 ∧ br.length ≤ ms.length ∧ b ≤ ms.length ∧ hp.length = ms.length
def JL1 (rows : List Seg) (s : Seg) (ms0 : List Mt) (bs br hp : List Int) (h : Int) (b : Nat) (k : Nat) (ρ : Z.Env) (S : Store) : Prop := ∃ (o6 : Option W), ρ = [some (.loc 0), some (.val (.lst (rows.map segP))), some (.val (.str s.kind)), some (.val (.int s.len)), some (.val (.int s.slope)), some (.val (.int b)), o6] ∧
  S = stL rows (ms0 ++ List.replicate k (s.kind, s.slope, (b : Int))) bs br (hp ++ [h] ++ upL h s.slope k)
theorem last_up (hp : List Int) (h sl : Int) (k : Nat) : atI ((hp ++ [h] ++ upL h sl k).map fun i => W.val (.int i)) (-1) = some (.val (.int (h + k * sl))) := by
  cases k with
  | zero => simp [upL]
  | succ k => simp only [upL, ← List.append_assoc, List.map_append, List.map_cons, List.map_nil, atI_snoc]; simp
theorem init_ok {rows : List Seg} (h : Lay rows) : m_Layout_init [.lst (rows.map segP)] = .ok (layP rows) := by
  have hml := metres_len 0 h.ok
  have ht := h.t
  obtain ⟨_, _, eL, ms, bs, br, hp, hh, b, o2, o3, o4, o5, o6, rfl, rfl, _, e1, e2, e3, e4, e5, e6, e7, e8⟩ := for_lst segP (JL rows) (t := .tp [.nm 2, .nm 3, .nm 4]) (body := m_Layout_init_b2) (by
    rintro s r _ _ ⟨ms, bs, br, hp, hh, b, o2, o3, o4, o5, o6, rfl, rfl, hok, e1, e2, e3, e4, e5, e6, e7, e8⟩
    have hs := hok s List.mem_cons_self
    have hl1 := hs.l1
    have hl2 := hs.l2
    have hm0 : (ms ++ metresL b (s :: r)).length = (metresL 0 rows).length := by rw [e1]
    simp only [metresL, List.length_append, List.length_replicate] at hm0
    have ert : rngOk 0 s.len = true := rngOk_of (by omega) (by omega) (by omega) (by omega)
    have L : ∀ br', ∃ o, forGo (.nm 6) m_Layout_init_b1 (rngP 0 s.len.toNat) [some (.loc 0), some (.val (.lst (rows.map segP))), some (.val (.str s.kind)), some (.val (.int s.len)), some (.val (.int s.slope)), some (.val (.int b)), o6] (stL rows ms bs br' (hp ++ [hh])) =
        .nx [some (.loc 0), some (.val (.lst (rows.map segP))), some (.val (.str s.kind)), some (.val (.int s.len)), some (.val (.int s.slope)), some (.val (.int b)), o] (stL rows (ms ++ List.replicate s.len.toNat (s.kind, s.slope, (b : Int))) bs br' (hp ++ [hh] ++ upL hh s.slope s.len.toNat)) := by
      intro br'
      obtain ⟨_, _, eq, p6, rfl, rfl⟩ := for_rng (JL1 rows s ms bs br' hp hh b) (t := .nm 6) (body := m_Layout_init_b1) (lo := 0) (n := s.len.toNat) (by
        rintro k _ _ hk ⟨o6, rfl, rfl⟩
        have hlen : ms.length + k < 100000 := by omega
        have hlen2 : hp.length + (1 + k) < 100000 := by omega
        have hlast := last_up hp hh s.slope k
        simp only [List.append_assoc] at hlast
        have hlen3 : hp.length + (k + 1) < 100000 := by omega
        simp (disch := omega) [m_Layout_init_b1, stL, NSL, hlen, hlen2, hlen3, ixW_loc, upL_len] at hlast ⊢
        simp (disch := omega) [hlast, upL_len, hlen, hlen2, hlen3]
        refine ⟨_, rfl, ?_⟩
        simp [stL, NSL, List.replicate_succ', metP, upL]
        rw [Int.add_mul, Int.one_mul]; omega) (ρ := [some (.loc 0), some (.val (.lst (rows.map segP))), some (.val (.str s.kind)), some (.val (.int s.len)), some (.val (.int s.slope)), some (.val (.int b)), o6]) (S := stL rows ms bs br' (hp ++ [hh])) ⟨o6, rfl, by simp [upL]⟩
      exact ⟨p6, eq⟩
    have hbr : br.length < 100000 := by omega
    have hbs : bs.length < 100000 := by omega
    have hbz : (bs.length : Int) - 1 = b := by omega
    have hlt : (s.len.toNat : Int) = s.len := by omega
    obtain ⟨n, hn⟩ : ∃ n : Nat, s.len.toNat = n + 1 := ⟨s.len.toNat - 1, by omega⟩
    have hn2 : s.len = n + 1 := by omega
    have hml2 : ((ms ++ List.replicate s.len.toNat (s.kind, s.slope, (b : Int))).length : Int) = ms.length + s.len := by simp; omega
    have f4 : hp ++ [hh] ++ upL hh s.slope s.len.toNat = (hp ++ [hh] ++ upL hh s.slope n) ++ [hh + s.len * s.slope] := by rw [hn, upL, hn2, List.append_assoc, List.append_assoc, List.append_assoc]
    have f5 : (hp ++ [hh] ++ upL hh s.slope n).length = (ms ++ List.replicate s.len.toNat (s.kind, s.slope, (b : Int))).length := by
      simp [upL_len, hn]; omega
    by_cases hb : s.kind = ("brake" : Str)
    · obtain ⟨o, eo⟩ := L (br ++ [(ms.length : Int)])
      simp [stL, NSL, hb] at eo
      simp (disch := omega) [segP, m_Layout_init_b2, stL, NSL, hb, hbr, hbs, hbz, ert, eo]
      have hbb : isBr s = true := by simp [isBr, hb]
      have hbn : brN s = 1 := by simp [brN, hb]
      refine ⟨ms ++ List.replicate s.len.toNat (s.kind, s.slope, (b : Int)), bs ++ [(ms.length : Int) + s.len], br ++ [(ms.length : Int)], hp ++ [hh] ++ upL hh s.slope n, hh + s.len * s.slope, b + 1, _, _, _, _, _, rfl, ?_, fun s hs => hok s (List.mem_cons_of_mem _ hs), ?_, ?_, ?_, ?_, ?_, ?_, ?_, ?_⟩
      · rw [← f4]; simp [stL, NSL, hb]; omega
      · rw [← e1, metresL, hbn, List.append_assoc]; rfl
      · rw [hml2, ← e2, beginsL, hbb]; simp
      · rw [hml2, ← e3, brakesL, hbb]; simp
      · rw [← f4, ← e4, heightsL]; simp
      · simp [e5]
      · simp; omega
      · simp; omega
      · exact f5
    · obtain ⟨o, eo⟩ := L br
      simp [stL, NSL] at eo
      simp (disch := omega) [segP, m_Layout_init_b2, stL, NSL, hb, hbr, hbs, hbz, ert, eo]
      have hbb : isBr s = false := by simp [isBr, hb]
      have hbn : brN s = 0 := by simp [brN, hb]
      refine ⟨ms ++ List.replicate s.len.toNat (s.kind, s.slope, (b : Int)), bs, br, hp ++ [hh] ++ upL hh s.slope n, hh + s.len * s.slope, b, _, _, _, _, _, rfl, ?_, fun s hs => hok s (List.mem_cons_of_mem _ hs), ?_, ?_, ?_, ?_, ?_, ?_, ?_, ?_⟩
      · rw [← f4]; simp [stL, NSL]
      · rw [← e1, metresL, hbn, List.append_assoc, Int.add_zero]
      · rw [hml2, ← e2, beginsL, hbb]; simp
      · rw [hml2, ← e3, brakesL, hbb]; simp
      · rw [← f4, ← e4, heightsL]; simp
      · exact e5
      · simp; omega
      · simp; omega
      · exact f5) (xs := rows) (ρ := [some (.loc 0), some (.val (.lst (rows.map segP))), none, none, none, none, none]) (S := stL rows [] [0] [] [0]) ⟨[], [0], [], [], 0, 0, _, _, _, _, _, rfl, rfl, h.ok, rfl, rfl, rfl, rfl, rfl, by simp, by simp, rfl⟩
  have hlen := lay_len h.ok h.t
  have hlen5 : rows.length ≤ 100000 := by omega
  simp only [metresL, beginsL, brakesL, heightsL, List.append_nil] at e1 e2 e3 e4
  subst e1 e3
  rw [e2, e4] at eL
  simp [stL, NSL] at eL
  simp [m_Layout_init, runI_ap, envOf_ap, check_ok h, hlen5, eL]
  simp [layP, NSL, stL]
theorem layoutP_ok {rows : List Seg} (h : Lay rows) : m_l_layout [.lst (rows.map segP)] = .ok (layP rows) := by
  have hlen := lay_len h.ok h.t
  have hlen5 : rows.length ≤ 100000 := by omega
  have e := lc_id segP (i := 1) (ρ := [some (.val (.lst (rows.map segP))), none]) (S := []) (xs := rows) (by simp)
  simp [m_l_layout, runP_ap, envOf_ap, e, hlen5, init_ok h]
/-! train -/
structure Tr where
  len : Int
  f0 : Int
  f1 : Int
  b0 : Int
  b1 : Int
  lift : Int
  drive : Int
structure TrOk (t : Tr) : Prop where
  a1 : 1 ≤ t.len
  a2 : t.len ≤ 100
  a3 : 0 ≤ t.f0
  a4 : t.f0 ≤ t.f1
  a5 : t.f1 ≤ 100000
  a6 : 1 ≤ t.b0
  a7 : t.b0 ≤ t.b1
  a8 : t.b1 ≤ 1000000
  a9 : 1 ≤ t.lift
  a10 : t.lift ≤ 10000000
  a11 : 1 ≤ t.drive
  a12 : t.drive ≤ 10000000
def datP (t : Tr) : P := .lst [.int t.len, .tup [.int t.f0, .int t.f1], .tup [.int t.b0, .int t.b1], .int t.lift, .int t.drive]
def trP (t : Tr) : P := .obj "Train" ["length", "friction", "brake", "lift", "drive"] [.int t.len, .tup [.int t.f0, .int t.f1], .tup [.int t.b0, .int t.b1], .int t.lift, .int t.drive]
theorem intv_ok (a b : Int) (h : a ≤ b) : m_is_interval [.tup [.int a, .int b]] = .ok (.bl true) := by
  simp [m_is_interval, runP_ap, envOf_ap, h]
theorem trinit_ok {t : Tr} (h : TrOk t) : m_Train_init [.int t.len, .tup [.int t.f0, .int t.f1], .tup [.int t.b0, .int t.b1], .int t.lift, .int t.drive] = .ok (trP t) := by
  obtain ⟨a1, a2, a3, a4, a5, a6, a7, a8, a9, a10, a11, a12⟩ := h
  have b3 : ¬ t.f0 < 0 := by omega
  have b5 : ¬ 100000 < t.f1 := by omega
  have b6 : ¬ t.b0 < 1 := by omega
  have b8 : ¬ 1000000 < t.b1 := by omega
  simp [m_Train_init, runI_ap, envOf_ap, intv_ok _ _ a4, intv_ok _ _ a7, a1, a2, b3, b5, b6, b8, a9, a10, a11, a12, trP]
theorem trainP_ok {t : Tr} (h : TrOk t) : m_l_train [datP t] = .ok (trP t) := by
  simp [m_l_train, runP_ap, envOf_ap, datP, trinit_ok h]
theorem data_ok {ds : List Int} (hd : Dr ds 8) : ∃ t, TrOk t ∧ m_l_drawn_train [.lst (ds.map .int)] = .ok (datP t) := by
  have e0 := hd.at (i := 0) (by omega) (by omega)
  have r0 := hd.r (i := 0) (by omega) (by omega)
  have e1 := hd.at (i := 1) (by omega) (by omega)
  have r1 := hd.r (i := 1) (by omega) (by omega)
  have e2 := hd.at (i := 2) (by omega) (by omega)
  have e3 := hd.at (i := 3) (by omega) (by omega)
  have e4 := hd.at (i := 4) (by omega) (by omega)
  have r4 := hd.r (i := 4) (by omega) (by omega)
  have e5 := hd.at (i := 5) (by omega) (by omega)
  have r5 := hd.r (i := 5) (by omega) (by omega)
  have e6 := hd.at (i := 6) (by omega) (by omega)
  have r6 := hd.r (i := 6) (by omega) (by omega)
  generalize gi ds 0 = d0 at *
  generalize gi ds 1 = d1 at *
  generalize gi ds 2 = d2 at *
  generalize gi ds 3 = d3 at *
  generalize gi ds 4 = d4 at *
  generalize gi ds 5 = d5 at *
  generalize gi ds 6 = d6 at *
  refine ⟨⟨1 + d2 % 4, d0 % 400, d0 % 400 + d3 % 900, 5000 + 73 * d1, 5000 + 73 * d1 + 10 * d4, 1 + 30 * d5, 1 + 20 * d6⟩, ?_, ?_⟩
  · constructor <;> simp only [] <;> omega
  · simp (disch := omega) [m_l_drawn_train, runP_ap, envOf_ap, e0, e1, e2, e3, e4, e5, e6, mulOk_c, mulOk_d, datP]
end Gk07
end
-- part M07e
section
set_option Elab.async false
set_option linter.all false
set_option maxRecDepth 100000
set_option autoImplicit false
namespace Gk07
open PySem PySem.Spec PyProof.Rows L2 Z
def mx (a b : Int) : Int := if b > a then b else a
def stP : Option Int → P
  | none => .non
  | some i => .int i
/-- the energy behind a metre -/
def aft (m : Mt) (t : Tr) (e fr : Int) (st : Option Int) : Int :=
  if m.1 = ("lift" : Str) then mx t.lift (e - 1962 * m.2.1 - fr)
  else if m.1 = ("brake" : Str) then match st with
    | none => mx t.drive (e - 1962 * m.2.1 - fr)
    | some s => if e = 0 then 0 else mx 0 (e - 1962 * m.2.1 - fr - s)
  else if e = 0 then 0 else mx 0 (e - 1962 * m.2.1 - fr)
theorem mx_l (a b : Int) : a ≤ mx a b := by unfold mx; split <;> omega
theorem aft_nn {m : Mt} {t : Tr} (ht : TrOk t) {e fr : Int} {st : Option Int} : 0 ≤ aft m t e fr st := by
  have := ht.a9; have := ht.a11
  unfold aft
  split
  · have := mx_l t.lift (e - 1962 * m.2.1 - fr); omega
  · split
    · cases st with
      | none => have := mx_l t.drive (e - 1962 * m.2.1 - fr); simp only []; omega
      | some s =>
        simp only []
        split
        · omega
        · exact mx_l _ _
    · split
      · omega
      · exact mx_l _ _
theorem after_ok {m : Mt} {t : Tr} {e fr : Int} {st : Option Int} : m_l_after [metP m, datP t, .int e, .int fr, stP st] = .ok (.int (aft m t e fr st)) := by
  obtain ⟨k, sl, b⟩ := m
  unfold aft
  by_cases h1 : k = ("lift" : Str)
  · simp (disch := omega) [m_l_after, runP_ap, envOf_ap, metP, datP, h1, mulOk_d, mx]
  · by_cases h2 : k = ("brake" : Str)
    · cases st with
      | none => simp (disch := omega) [m_l_after, runP_ap, envOf_ap, metP, datP, h2, mulOk_d, stP, mx]
      | some s =>
        by_cases h3 : e = 0 <;> simp (disch := omega) [m_l_after, runP_ap, envOf_ap, metP, datP, h2, mulOk_d, stP, mx, h3]
    · by_cases h3 : e = 0 <;> simp (disch := omega) [m_l_after, runP_ap, envOf_ap, metP, datP, h1, h2, mulOk_d, stP, mx, h3]
@[simp] theorem lay_isO (rows : List Seg) (m : Str) : isObjC "Layout" m (layP rows) = !NSL.contains m := by simp [layP]
@[simp] theorem lay_metres (rows : List Seg) (S : Store) : fldOf "Layout" "metres" S (.val (layP rows)) = some (.val (.lst ((metresL 0 rows).map metP))) := by simp [layP, NSL]
@[simp] theorem tr_lift (t : Tr) (S : Store) : fldOf "Train" "lift" S (.val (trP t)) = some (.val (.int t.lift)) := by simp [trP]
@[simp] theorem tr_drive (t : Tr) (S : Store) : fldOf "Train" "drive" S (.val (trP t)) = some (.val (.int t.drive)) := by simp [trP]
theorem chk_ok (rows : List Seg) (m : Int) (h0 : 0 ≤ m) (h1 : m < (metresL 0 rows).length) : m_Layout_check_metre [layP rows, .int m] = .ok .non := by
  simp [m_Layout_check_metre, runP_ap, envOf_ap, h0, h1]
theorem chk_bad (rows : List Seg) (m : Int) (h0 : ¬ (0 ≤ m ∧ m < (metresL 0 rows).length)) : m_Layout_check_metre [layP rows, .int m] = .ex ⟨"BadNumber", [], []⟩ := by
  by_cases h : 0 ≤ m
  · have : ¬ m < (metresL 0 rows).length := fun q => h0 ⟨h, q⟩
    simp [m_Layout_check_metre, runP_ap, envOf_ap, h, this]
  · simp [m_Layout_check_metre, runP_ap, envOf_ap, h]
theorem che_ok (rows : List Seg) (m e : Int) (h0 : 0 ≤ m) (h1 : m < (metresL 0 rows).length) (he : 0 ≤ e) : m_check_energy [layP rows, .int m, .int e] = .ok .non := by
  have := chk_ok rows m h0 h1
  have he2 : ¬ e < 0 := by omega
  simp [m_check_energy, runP_ap, envOf_ap, NSL, this, he2]
theorem che_m (rows : List Seg) (m e : Int) (h0 : ¬ (0 ≤ m ∧ m < (metresL 0 rows).length)) : m_check_energy [layP rows, .int m, .int e] = .ex ⟨"BadNumber", [], []⟩ := by
  have := chk_bad rows m h0
  simp [m_check_energy, runP_ap, envOf_ap, NSL, this]
theorem che_e (rows : List Seg) (m e : Int) (h0 : 0 ≤ m) (h1 : m < (metresL 0 rows).length) (he : e < 0) : m_check_energy [layP rows, .int m, .int e] = .ex ⟨"BadNumber", [], []⟩ := by
  have := chk_ok rows m h0 h1
  simp [m_check_energy, runP_ap, envOf_ap, NSL, this, he]
theorem metre_ok (rows : List Seg) (m : Int) (mt : Mt) (h0 : 0 ≤ m) (h1 : m < (metresL 0 rows).length) (hm : atI (metresL 0 rows) m = some mt) : m_Layout_metre [layP rows, .int m] = .ok (metP mt) := by
  have := chk_ok rows m h0 h1
  simp [m_Layout_metre, runP_ap, envOf_ap, NSL, this, hm]
theorem aftm_ok (rows : List Seg) {t : Tr} (m : Int) (mt : Mt) {e fr : Int} {st : Option Int} (he : 0 ≤ e) (h0 : 0 ≤ m) (h1 : m < (metresL 0 rows).length) (hm : atI (metresL 0 rows) m = some mt) :
    m_after_metre [layP rows, trP t, .int m, .int e, .int fr, stP st] = .ok (.int (aft mt t e fr st)) := by
  have a1 := che_ok rows m e h0 h1 he
  have a2 := metre_ok rows m mt h0 h1 hm
  obtain ⟨k, sl, b⟩ := mt
  unfold aft
  by_cases h1 : k = ("lift" : Str)
  · simp (disch := omega) [m_after_metre, runP_ap, envOf_ap, NSL, metP, a1, a2, h1, mulOk_d, mx]
  · by_cases h2 : k = ("brake" : Str)
    · cases st with
      | none => simp (disch := omega) [m_after_metre, runP_ap, envOf_ap, NSL, metP, a1, a2, h2, mulOk_d, stP, mx]
      | some s =>
        by_cases h3 : e = 0
        · subst h3
          simp (disch := omega) [m_after_metre, runP_ap, envOf_ap, NSL, metP, a1, a2, h2, mulOk_d, stP, mx]
        · have : 0 < e := by omega
          simp (disch := omega) [m_after_metre, runP_ap, envOf_ap, NSL, metP, a1, a2, h2, mulOk_d, stP, mx, h3, this]
    · by_cases h3 : e = 0
      · subst h3
        simp (disch := omega) [m_after_metre, runP_ap, envOf_ap, NSL, metP, a1, a2, h1, h2, mulOk_d, mx]
      · have : 0 < e := by omega
        simp (disch := omega) [m_after_metre, runP_ap, envOf_ap, NSL, metP, a1, a2, h1, h2, mulOk_d, stP, mx, h3, this]
theorem total_ok (rows : List Seg) : m_Layout_total [layP rows] = .ok (.int (metresL 0 rows).length) := by
  simp [m_Layout_total, runP_ap, envOf_ap]
/-! the roll -/
def rollL (ms : List Mt) (t : Tr) : Int → Int → List (Int × Option Int) → List Int
  | _, _, [] => []
  | p, e, (f, s) :: r => match atI ms (p % ms.length) with
    | some m => aft m t e f s :: rollL ms t (p + 1) (aft m t e f s) r
    | none => []
theorem rollL_cons (ms : List Mt) (t : Tr) (p e : Int) (f : Int) (s : Option Int) (r : List (Int × Option Int)) (m : Mt) (h : atI ms (p % ms.length) = some m) :
    rollL ms t p e ((f, s) :: r) = aft m t e f s :: rollL ms t (p + 1) (aft m t e f s) r := by rw [rollL, h]
theorem pos_ok (ms : List Mt) (h : 0 < ms.length) (p : Int) : 0 ≤ p % (ms.length : Int) ∧ p % (ms.length : Int) < ms.length ∧ ∃ m, atI ms (p % ms.length) = some m := by
  have h0 := Int.emod_nonneg p (b := (ms.length : Int)) (by omega)
  have h1 := Int.emod_lt_of_pos p (b := (ms.length : Int)) (by omega)
  refine ⟨h0, h1, ?_⟩
  rw [atI_in h0 h1]
  exact ⟨_, List.getElem?_eq_getElem (by omega)⟩
def JRd (ms : List Mt) (t : Tr) (first e0 : Int) (fs : List (Int × Option Int)) (k : Nat) (ρ : Z.Env) (S : Store) : Prop := ∃ (acc : List Int) (e : Int) (o7 : Option W),
  ρ = [some (.val (.lst (ms.map metP))), some (.val (datP t)), some (.val (.int first)), some (.val (.int e)), some (.val (.lst (fs.map fun q => .int q.1))), some (.val (.lst (fs.map fun q => stP q.2))), some (.loc 0), o7] ∧
  S = [.lst (acc.map fun i => .val (.int i))] ∧ acc.length = k ∧ acc ++ rollL ms t (first + k) e (fs.drop k) = rollL ms t first e0 fs
theorem rolled_ok (ms : List Mt) (hm : 0 < ms.length) (t : Tr) (first e0 : Int) (fs : List (Int × Option Int)) (hl : fs.length ≤ 1000) :
    m_l_rolled [.lst (ms.map metP), datP t, .int first, .int e0, .lst (fs.map fun q => .int q.1), .lst (fs.map fun q => stP q.2)] = .ok (.lst ((rollL ms t first e0 fs).map .int)) := by
  obtain ⟨_, _, eL, acc, e, o7, rfl, rfl, h1, h2⟩ := for_rng (JRd ms t first e0 fs) (t := .nm 7) (body := m_l_rolled_b1) (lo := 0) (n := fs.length) (by
    rintro k _ _ hk ⟨acc, e, o7, rfl, rfl, h1, h2⟩
    obtain ⟨p0, p1, m, p2⟩ := pos_ok ms hm (first + k)
    have hz : ¬ ((ms.length : Int) = 0) := by omega
    have hz2 : ¬ (ms.length = 0) := by omega
    have hf : atI fs (k : Int) = some fs[k] := by rw [atI_nn]; exact List.getElem?_eq_getElem hk
    have hd : fs.drop k = fs[k] :: fs.drop (k + 1) := List.drop_eq_getElem_cons hk
    generalize fs[k] = q at hf hd
    obtain ⟨f, s⟩ := q
    have hacc : acc.length < 100000 := by omega
    simp (disch := omega) [m_l_rolled_b1, hm, p2, hf, after_ok, hacc]
    refine ⟨acc ++ [aft m t e f s], _, _, rfl, by simp, by simp [h1], ?_⟩
    rw [← h2, hd, rollL_cons _ _ _ _ _ _ _ m p2]
    simp [Int.add_assoc]) (ρ := [some (.val (.lst (ms.map metP))), some (.val (datP t)), some (.val (.int first)), some (.val (.int e0)), some (.val (.lst (fs.map fun q => .int q.1))), some (.val (.lst (fs.map fun q => stP q.2))), some (.loc 0), none]) (S := [.lst []])
      ⟨[], e0, _, rfl, rfl, rfl, by simp⟩
  have ert : rngOk 0 (fs.length : Int) = true := rngOk_of (by omega) (by omega) (by omega) (by omega)
  simp [rollL] at h2
  simp [m_l_rolled, runP_ap, envOf_ap, ert, eL, h2]
def JRo (rows : List Seg) (t : Tr) (first e0 : Int) (fs : List (Int × Option Int)) (r : List (Int × Option Int)) (ρ : Z.Env) (S : Store) : Prop := ∃ (acc : List Int) (e : Int) (k : Nat) (p : Int) (o7 o8 : Option W),
  ρ = [some (.val (layP rows)), some (.val (trP t)), some (.val (.int p)), some (.val (.int e)), some (.val (.lst (fs.map fun q => .int q.1))), some (.val (.lst (fs.map fun q => stP q.2))), some (.loc 0), o7, o8] ∧
  S = [.lst (acc.map fun i => .val (.int i))] ∧ acc.length + r.length = fs.length ∧ acc ++ rollL (metresL 0 rows) t (first + k) e r = rollL (metresL 0 rows) t first e0 fs ∧ 0 ≤ e ∧ p = (first + k) % (metresL 0 rows).length
theorem roll_ok (rows : List Seg) (hm : 0 < (metresL 0 rows).length) (t : Tr) (ht : TrOk t) (first e0 : Int) (he : 0 ≤ e0) (h0 : 0 ≤ first) (h1 : first < (metresL 0 rows).length) (fs : List (Int × Option Int)) (hl : fs.length ≤ 1000) :
    m_roll [layP rows, trP t, .int first, .int e0, .lst (fs.map fun q => .int q.1), .lst (fs.map fun q => stP q.2)] = .ok (.lst ((rollL (metresL 0 rows) t first e0 fs).map .int)) := by
  have hz : ¬ (((metresL 0 rows).length : Int) = 0) := by omega
  have hz2 : ¬ ((metresL 0 rows).length = 0) := by omega
  obtain ⟨_, _, eL, acc, e, k, p, o7, o8, rfl, rfl, q1, q2, q3, q4⟩ := for_lst (fun q : Int × Option Int => P.tup [.int q.1, stP q.2]) (JRo rows t first e0 fs) (t := .tp [.nm 7, .nm 8]) (body := m_roll_b1) (by
    rintro ⟨f, s⟩ r _ _ ⟨acc, e, k, p, o7, o8, rfl, rfl, q1, q2, q3, q4⟩
    obtain ⟨p0, p1, m, p2⟩ := pos_ok (metresL 0 rows) hm (first + k)
    have p0' := p0
    have p1' := p1
    have p2' := p2
    rw [← q4] at p0' p1' p2'
    have ha := aftm_ok rows (t := t) p m (fr := f) (st := s) q3 p0' p1' p2'
    have hacc : acc.length < 100000 := by simp at q1; omega
    simp (disch := omega) [m_roll_b1, ha, hacc, NSL, total_ok, hm]
    refine ⟨acc ++ [aft m t e f s], _, k + 1, _, _, _, rfl, by simp, by simp at q1 ⊢; omega, ?_, aft_nn ht, ?_⟩
    · rw [← q2, rollL_cons _ _ _ _ _ _ _ m p2]
      simp [Int.add_assoc]
    · rw [q4, Int.emod_add_emod]; congr 1; push_cast; omega) (xs := fs) (ρ := [some (.val (layP rows)), some (.val (trP t)), some (.val (.int first)), some (.val (.int e0)), some (.val (.lst (fs.map fun q => .int q.1))), some (.val (.lst (fs.map fun q => stP q.2))), some (.loc 0), none, none]) (S := [.lst []])
      ⟨[], e0, 0, first, _, _, rfl, rfl, by simp, by simp, he, by rw [Int.emod_eq_of_lt] <;> simp <;> omega⟩
  have hc := che_ok rows first e0 h0 h1 he
  simp [rollL] at q2
  have hzip : List.map (fun q : P × P => P.tup [q.1, q.2]) ((fs.map fun q => P.int q.1).zip (fs.map fun q => stP q.2)) = fs.map fun q => P.tup [.int q.1, stP q.2] := by
    rw [List.zip_map', List.map_map]; rfl
  simp [m_roll, runP_ap, envOf_ap, hc]
  rw [hzip, eL]
  simp [q2]
end Gk07
end
-- part M07f
section
set_option Elab.async false
set_option linter.all false
set_option maxRecDepth 100000
set_option autoImplicit false
namespace Gk07
open PySem PySem.Spec PyProof.Rows L2 Z
theorem rollL_len (ms : List Mt) (t : Tr) : ∀ (r : List (Int × Option Int)) (p e : Int), (rollL ms t p e r).length ≤ r.length
  | [], _, _ => by simp [rollL]
  | (f, s) :: r, p, e => by
    rw [rollL]
    split
    · have := rollL_len ms t r (p + 1) (aft ‹_› t e f s)
      simp; omega
    · simp
theorem like_int (j : Nat) (a : Int) : m_l_like (j + 1) [.int a, .int a] = .ok (.bl true) := by
  simp [m_l_like, runP_ap, envOf_ap, isi]
theorem all_tt {α : Type} (xs : List α) : (xs.all fun _ => true) = true := by induction xs <;> simp_all
theorem lc15 {α : Type} (f : α → P) (xs : List α) (S : Store) (a0 a1 a2 a3 a4 a5 a6 a7 a8 a9 a10 a11 a12 a13 a14 a15 : Option W) : lcGo [15] (.nm 15) cYes (eVar 15) [a0, a1, a2, a3, a4, a5, a6, a7, a8, a9, a10, a11, a12, a13, a14, a15] (xs.map f) S = .ok (xs.map f) S := lc_id f (by simp)
theorem like_lst (j : Nat) (xs : List Int) (hl : xs.length ≤ 100000) : m_l_like (j + 2) [.lst (xs.map .int), .lst (xs.map .int)] = .ok (.bl true) := by
  have el : lcGo [2] (.nm 2) cYes (eCall 2 (m_l_like (j + 1)) (aCons (eBin ixW (eVar 0) (eVar 2)) (aCons (eBin ixW (eVar 1) (eVar 2)) aNil))) [some (.val (.lst (xs.map .int))), some (.val (.lst (xs.map .int))), none] ((List.range xs.length).map fun (k : Nat) => P.int (0 + (k : Int))) [] = .ok ((List.range xs.length).map fun _ => .bl true) [] := by
    refine lcGo_map _ _ fun k hk => ⟨_, bindT_nm _ _ _, ?_⟩
    have hk := List.mem_range.mp hk
    have e : atI xs (k : Int) = some (gi xs k) := atI_gi (by omega) (by omega)
    simp [e, like_int]
  have ert : rngOk 0 (xs.length : Int) = true := rngOk_of (by omega) (by omega) (by omega) (by omega)
  rw [← rngP_eq] at el
  have hrl : (rngP 0 xs.length).length ≤ 100000 := by rw [rngP_eq]; simpa using hl
  rw [show j + 2 = (j + 1) + 1 from rfl, m_l_like]
  simp [runP_ap, envOf_ap, isi, ert, hrl, hl, el, all_tt]
theorem ex1 : exmT "BadNumber" "BadNumber" = some true := by decide +kernel
theorem ex2 : exmT "NotFitting" "BadNumber" = some false := by decide +kernel
theorem ex3 : exmT "NotFitting" "NotFitting" = some true := by decide +kernel
theorem told_num (ps : List P) (h : ps.length = 6) (e : m_roll ps = .ex ⟨"BadNumber", [], []⟩) : m_l_told ps = .ok (.tup [.str "number"]) := by
  match ps, h with
  | [a, b, c, d, f, g], _ => simp [m_l_told, runP_ap, envOf_ap, e, tryGo_yes, ex1]
theorem told_fit (ps : List P) (h : ps.length = 6) (e : m_roll ps = .ex ⟨"NotFitting", [], []⟩) : m_l_told ps = .ok (.tup [.str "fit"]) := by
  match ps, h with
  | [a, b, c, d, f, g], _ => simp [m_l_told, runP_ap, envOf_ap, e, tryGo_no, tryGo_yes, ex2, ex3]
theorem roll_fit (rows : List Seg) (t : Tr) (first e0 : Int) (he : 0 ≤ e0) (h0 : 0 ≤ first) (h1 : first < (metresL 0 rows).length) (xs ys : List P) (hl : xs.length ≠ ys.length) :
    m_roll [layP rows, trP t, .int first, .int e0, .lst xs, .lst ys] = .ex ⟨"NotFitting", [], []⟩ := by
  have hc := che_ok rows first e0 h0 h1 he
  have : ¬ ((xs.length : Int) = ys.length) := by omega
  simp [m_roll, runP_ap, envOf_ap, hc, hl, this]
theorem roll_num (rows : List Seg) (t : Tr) (first e0 : Int) (h : m_check_energy [layP rows, .int first, .int e0] = .ex ⟨"BadNumber", [], []⟩) (xs ys : List P) :
    m_roll [layP rows, trP t, .int first, .int e0, .lst xs, .lst ys] = .ex ⟨"BadNumber", [], []⟩ := by
  simp [m_roll, runP_ap, envOf_ap, h]
theorem equal_str (j : Nat) (x : Str) : m_l_equal (j + 1) [.str x, .str x] = .ok (.bl true) := by
  simp [m_l_equal, runP_ap, envOf_ap, isi]
theorem equal_one (j : Nat) (x : Str) (hx : PyData.strOk x = true) : m_l_equal (j + 2) [.tup [.str x], .tup [.str x]] = .ok (.bl true) := by
  have el : lcGo [2] (.nm 2) cYes (eCall 2 (m_l_equal (j + 1)) (aCons (eBin ixW (eVar 0) (eVar 2)) (aCons (eBin ixW (eVar 1) (eVar 2)) aNil))) [some (.val (.tup [.str x])), some (.val (.tup [.str x])), none, none] ((List.range 1).map fun (k : Nat) => P.int (0 + (k : Int))) [] = .ok ((List.range 1).map fun _ => .bl true) [] := by
    refine lcGo_map _ _ fun k hk => ⟨_, bindT_nm _ _ _, ?_⟩
    have hk := List.mem_range.mp hk
    have hk0 : k = 0 := by omega
    subst hk0
    simp [equal_str]
  have ert : rngOk 0 1 = true := rngOk_of (by omega) (by omega) (by omega) (by omega)
  rw [← rngP_eq] at el
  have hrl : (rngP 0 1).length ≤ 100000 := by rw [rngP_eq]; simp
  rw [show j + 2 = (j + 1) + 1 from rfl, m_l_equal]
  simp [runP_ap, envOf_ap, isi, ert, hrl, el]
def frA (t : Tr) (ds : List Int) (k : Nat) : Int := t.f0 + gi ds k % (t.f1 - t.f0 + 1)
def stA (t : Tr) (ds : List Int) (k : Nat) : Option Int := if gi ds k / 7 % 3 = 0 then some (t.b0 + gi ds k % (t.b1 - t.b0 + 1)) else none
def JLaw (E : Option W → Option W → Z.Env) (t : Tr) (ds : List Int) (k : Nat) (ρ : Z.Env) (S : Store) : Prop := ∃ (a b : Option W), ρ = E a b ∧ S = [.lst ((List.range k).map fun i => .val (stP (stA t ds i)))]
theorem lawb_ok {t : Tr} (ht : TrOk t) {ds : List Int} (hd : Dr ds 84) (n : Nat) (hn : n < 80) (v0 v2 v3 v4 v5 v7 v8 : W) :
    ∃ a b, forGo (.nm 9) m_law_b1 (rngP 0 n) [some v0, some (.val (datP t)), some v2, some v3, some v4, some v5, some (.val (.lst (ds.map .int))), some v7, some v8, none, some (.loc 0), none, none, none, none, none] [.lst []] =
      .nx [some v0, some (.val (datP t)), some v2, some v3, some v4, some v5, some (.val (.lst (ds.map .int))), some v7, some v8, a, some (.loc 0), b, none, none, none, none] [.lst ((List.range n).map fun i => .val (stP (stA t ds i)))] := by
  obtain ⟨_, _, eL, a, b, rfl, rfl⟩ := for_rng (JLaw (fun a b => [some v0, some (.val (datP t)), some v2, some v3, some v4, some v5, some (.val (.lst (ds.map .int))), some v7, some v8, a, some (.loc 0), b, none, none, none, none]) t ds) (t := .nm 9) (body := m_law_b1) (lo := 0) (n := n) (by
    rintro k _ _ hk ⟨a, b, rfl, rfl⟩
    have e := hd.at (i := (k : Int)) (by omega) (by omega)
    have hp : 0 < t.b1 - t.b0 + 1 := by have := ht.a7; omega
    have hk2 : k < 100000 := by omega
    by_cases hc : gi ds k / 7 % 3 = 0
    · simp (disch := omega) [m_law_b1, e, hc, datP, hp, hk2]
      exact ⟨_, _, rfl, by simp [List.range_succ, stA, hc, stP]⟩
    · simp (disch := omega) [m_law_b1, e, hc, datP, hp, hk2]
      exact ⟨_, _, rfl, by simp [List.range_succ, stA, hc, stP]⟩) (ρ := [some v0, some (.val (datP t)), some v2, some v3, some v4, some v5, some (.val (.lst (ds.map .int))), some v7, some v8, none, some (.loc 0), none, none, none, none, none]) (S := [.lst []]) ⟨none, none, rfl, rfl⟩
  exact ⟨a, b, eL⟩
theorem law_holds (ns : List Int) : m_law [.scr ns] = .ok (.bl true) := by
  obtain ⟨c0, hc0, ec0⟩ := cell_ok ns 0
  obtain ⟨c1, hc1, ec1⟩ := cell_ok ns 1
  obtain ⟨c2, hc2, ec2⟩ := cell_ok ns 2
  obtain ⟨d0, h01, h02, e0⟩ := draws_ok c0 30 hc0 (by omega)
  obtain ⟨d1, h11, h12, e1⟩ := draws_ok c1 8 hc1 (by omega)
  obtain ⟨ds, h21, h22, e2⟩ := draws_ok c2 84 hc2 (by omega)
  have hd : Dr ds 84 := ⟨h21, h22⟩
  obtain ⟨t, ht, et⟩ := data_ok ⟨h11, h12⟩
  obtain ⟨rows, hl, er⟩ := layout_ok ⟨h01, h02⟩
  have emt := metres_ok hl
  have ely := layoutP_ok hl
  have etr := trainP_ok ht
  have hml : 0 < (metresL 0 rows).length := by
    have a := metres_len 0 hl.ok
    have b := tot_len hl.ok
    obtain ⟨r, s, q, _⟩ := hl.l
    have c : rows.length ≠ 0 := by rw [q]; simp
    omega
  have g80 := hd.at (i := 80) (by omega) (by omega)
  have g81 := hd.at (i := 81) (by omega) (by omega)
  have g82 := hd.at (i := 82) (by omega) (by omega)
  have g83 := hd.at (i := 83) (by omega) (by omega)
  have r80 := hd.r (i := 80) (by omega) (by omega)
  have r81 := hd.r (i := 81) (by omega) (by omega)
  have r82 := hd.r (i := 82) (by omega) (by omega)
  have r83 := hd.r (i := 83) (by omega) (by omega)
  generalize gi ds 80 = x80 at *
  generalize gi ds 81 = x81 at *
  generalize gi ds 82 = x82 at *
  generalize gi ds 83 = x83 at *
  obtain ⟨n, hn, hn2⟩ : ∃ n : Nat, x81 % 80 = n ∧ n < 80 := ⟨(x81 % 80).toNat, by omega, by omega⟩
  have ert : rngOk 0 (n : Int) = true := rngOk_of (by omega) (by omega) (by omega) (by omega)
  simp at ec0 ec1 ec2 e0 e1 e2
  have hpos : 0 < t.f1 - t.f0 + 1 := by have := ht.a4; omega
  have fr : lcGo [9] (.nm 9) cYes (eBin addW (eBin ixW (eBin ixW (eVar 1) (eCst (.int 1))) (eCst (.int 0))) (eBin modW (eBin ixW (eVar 6) (eVar 9)) (eBin addW (eBin subW (eBin ixW (eBin ixW (eVar 1) (eCst (.int 1))) (eCst (.int 1))) (eBin ixW (eBin ixW (eVar 1) (eCst (.int 1))) (eCst (.int 0)))) (eCst (.int 1)))))
      [some (W.val (P.scr ns)), some (W.val (datP t)), some (W.val (P.lst (List.map segP rows))), some (W.val (P.lst (List.map metP (metresL 0 rows)))), some (W.val (layP rows)), some (W.val (trP t)), some (W.val (P.lst (List.map P.int ds))),
                        some (W.val (P.int (x80 % ↑(metresL 0 rows).length))), none, none, none, none, none, none, none, none] (rngP 0 n) [] = .ok ((List.range n).map fun k => P.int (frA t ds k)) [] :=
    lcGo_rng _ fun k hk => ⟨_, bindT_nm _ _ _, by
      have e := hd.at (i := (k : Int)) (by omega) (by omega)
      simp [datP, e, hpos, frA]⟩
  obtain ⟨a9, a11, eLp⟩ := lawb_ok ht hd n hn2 (W.val (P.scr ns)) (W.val (P.lst (List.map segP rows))) (W.val (P.lst (List.map metP (metresL 0 rows)))) (W.val (layP rows)) (W.val (trP t)) (W.val (P.int (x80 % ↑(metresL 0 rows).length))) (W.val (P.lst ((List.range n).map fun k => P.int (frA t ds k))))
  obtain ⟨en, he0⟩ : ∃ en, x82 * (1 + x83 % 200) = en := ⟨_, rfl⟩
  have he00 : 0 ≤ en := by rw [← he0]; exact Int.mul_nonneg r82.1 (by omega)
  obtain ⟨p0, p1, _⟩ := pos_ok (metresL 0 rows) hml x80
  generalize hfi : x80 % ((metresL 0 rows).length : Int) = first at *
  have R1 : m_l_rolled [.lst ((metresL 0 rows).map metP), datP t, .int first, .int en, .lst ((List.range n).map fun k => .int (frA t ds k)), .lst ((List.range n).map fun k => stP (stA t ds k))] = .ok (.lst ((rollL (metresL 0 rows) t first en ((List.range n).map fun k => (frA t ds k, stA t ds k))).map .int)) := by
    have := rolled_ok (metresL 0 rows) hml t first en ((List.range n).map fun k => (frA t ds k, stA t ds k)) (by simp; omega)
    simpa [Function.comp_def] using this
  have R2 : m_roll [layP rows, trP t, .int first, .int en, .lst ((List.range n).map fun k => .int (frA t ds k)), .lst ((List.range n).map fun k => stP (stA t ds k))] = .ok (.lst ((rollL (metresL 0 rows) t first en ((List.range n).map fun k => (frA t ds k, stA t ds k))).map .int)) := by
    have := roll_ok rows hml t ht first en he00 p0 p1 ((List.range n).map fun k => (frA t ds k, stA t ds k)) (by simp; omega)
    simpa [Function.comp_def] using this
  have n5 : n ≤ 100000 := by omega
  have hrl := rollL_len (metresL 0 rows) t ((List.range n).map fun k => (frA t ds k, stA t ds k)) first en
  simp at hrl
  have lk := like_lst 3 (rollL (metresL 0 rows) t first en ((List.range n).map fun k => (frA t ds k, stA t ds k))) (by omega)
  have eqr : eqP (.lst [.lst ((List.range n).map fun k => .int (frA t ds k)), .lst ((List.range n).map fun k => stP (stA t ds k))]) (.lst [.lst ((List.range n).map fun k => .int (frA t ds k)), .lst ((List.range n).map fun k => stP (stA t ds k))]) = some true := by
    refine eqP_refl 3 ?_
    have : ∀ o : Option Int, shP 1 (stP o) = true := fun o => by cases o <;> simp [stP]
    simp [this]
  have eqf : eqP (.tup [.str "fit"]) (.tup [.str "fit"]) = some true := eqP_refl 2 (by decide +kernel)
  have tf1 := told_fit [layP rows, trP t, .int first, .int en, .lst (((List.range n).map fun k => P.int (frA t ds k)) ++ [.int 1]), .lst ((List.range n).map fun k => stP (stA t ds k))] rfl (roll_fit rows t first en he00 p0 p1 _ _ (by simp))
  have tf2 := told_fit [layP rows, trP t, .int first, .int en, .lst ((List.range n).map fun k => P.int (frA t ds k)), .lst (((List.range n).map fun k => stP (stA t ds k)) ++ [.non])] rfl (roll_fit rows t first en he00 p0 p1 _ _ (by simp))
  have tn1 := told_num [layP rows, trP t, .int ((metresL 0 rows).length : Int), .int en, .lst [], .lst [.non]] rfl (roll_num rows t _ en (che_m rows _ en (by omega)) _ _)
  have tn2 := told_num [layP rows, trP t, .int first, .int (-1), .lst [.int 1], .lst []] rfl (roll_num rows t first (-1) (che_e rows first (-1) p0 p1 (by omega)) _ _)
  have q1 := equal_one 3 "fit" (by decide +kernel)
  have q2 := equal_one 3 "number" (by decide +kernel)
  have n6 : n + 1 ≤ 100000 := by omega
  simp at lk q1 q2
  unfold m_law
  simp (disch := omega) [runP_ap, envOf_ap, ec0, ec1, ec2, e0, e1, e2, et, er, emt, ely, etr, g80, g81, g82, g83, hml, hn, ert, hfi, fr, eLp, he0, mulOk_c, R1, R2, lc15, n5, n6, lk, eqr, eqf, tf1, tf2, tn1, tn2, q1, q2]
end Gk07
end
theorem PySem.Challenge.cw_coastersafe_k07_rolls_holds : PySem.Challenge.rw_coastersafe_k07_rolls.Holds := by
  exact Gk07.ends fun ns _ => Gk07.law_holds ns
