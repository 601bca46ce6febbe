import PyProof.Rows.All
import Wide.All
import OpenK.AllK
import Wide.FinOn
import HandS.Base
import HandS.Call
import HandS.List
import HandS.Comp
import HandS.AnyAll
import HandS.GenOver
import HandS.ForMost
import HandS.ForExc
import HandS.CallSlots
import HandS.IsInst
import HandS.TupAny
import HandS.TupMul
import HandS.Wide
import HandS.WideBits
import HandS.Walk
import HandS.Zip
import HandS.More
import HandS.Defaults
import HandS.TryMany
import HandS.HeadEnd
import HandS.HeadHook1
import HandS.HeadHook2
import HandS.Head0
import HandS.Head1
import HandS.Head2
import KE.KStateDown
import HandS.Style
import HandS.Codes
import HandS.HeadHook4
import HandS.HeadWalk
import HandS.NestedK
import PySem.Challenge.RW_coastersafe_k15_passages_and_rides_of_la
-- part GX
section
set_option Elab.async false
set_option linter.all false
set_option maxRecDepth 100000
set_option maxHeartbeats 2000000
set_option autoImplicit false
/-! # GX: all, any of a generator expression over any iterable, its test any expression (calls too) -/
namespace GX
open PySem PySem.Spec PyProof.Rows L2

/-- the context of a generator's frame -/
abbrev gcx (X : Cx) (s : Shared) (H : Hp) (cenv : Env) (fp : List Addr) (A' : Around) : Cx :=
  { X with A := A', s_0 := s, H_0 := H, env := cenv, outer := X.stack, stack := cenv :: X.stack, ex := fp, fn := fun _ => false, pn := [], xe := fun _ _ => False }
abbrev gcl (X : Cx) (scope : Scope) : List (Str × Addr) := cloFrom X.env.cells scope.names []
section
variable {X : Cx} {pins : List (Addr × Obj)} {σ : L2.St} {H : Hp} {s : Shared}
theorem gen_start {scope : Scope} {own : List (Str × Nat)} {fp : List Addr} {A' : Around} {code : Value} {h' : Heap} {g' : Array GenState} {t' : Nat} {m : Str → Option Value} (I : Inv X pins σ H s) (ok : BlkOk X.N X.env.scope scope own) (hN : X.N.Nodup)
    (hfp : ∀ b ∈ fp, FpOk X pins H b ∧ b < s.heap.objs.size) (hcell : ∀ y ∈ scope.names, y.2 ≠ .cell) (hA : A'.handled = none) (hfr : A'.frames = some (genEnv scope (gcl X scope) s.heap.objs.size code builtinsNs X.env :: X.stack))
    (hn : h'.Ns s.heap.objs.size m) (kp : ∀ b o, s.heap.get? b = some o → h'.get? b = some o) (hg : AllBare g') :
    Inv (gcx X s H (genEnv scope (gcl X scope) s.heap.objs.size code builtinsNs X.env) fp A') [] (wipe σ (own.map (·.2))) H { s with heap := h', gens := g', toks := t' } := by
  have hfree : ∀ y ∈ scope.names, y.2 = .free → ∃ c, X.env.cells.lookup y.1 = some c := fun y hy e => by
    rcases ok.free y hy e with k | k
    · exact I.ok.has _ (.inl k)
    · exact I.ok.has _ (.inr k)
  have cm : ∀ {y c}, (y, c) ∈ gcl X scope → X.env.cells.lookup y = some c ∧ c < s.heap.objs.size := fun {y c} hm => by
    rcases cloFrom_mem hm with hm | ⟨h1, rfl⟩
    · cases hm
    · obtain ⟨c, hc⟩ := hfree _ h1 rfl
      rw [hc]
      obtain ⟨w, z⟩ := I.cell _ _ hc
      exact ⟨rfl, z.lt⟩
  have mem : ∀ {y c}, (gcl X scope).lookup y = some c → X.env.cells.lookup y = some c ∧ c < s.heap.objs.size := fun {y c} e => cm (PySem.mem_of_lookup e)
  have look : ∀ {y}, scope.names.lookup y = some .free → ∃ c, (gcl X scope).lookup y = some c ∧ X.env.cells.lookup y = some c := fun {y} hl => by
    have hy : (y, NameKind.free) ∈ scope.names := PySem.mem_of_lookup hl
    obtain ⟨c', e'⟩ := mem_lookup (cloFrom_has (cells := X.env.cells) (acc := []) hy)
    exact ⟨c', e', (mem e').1⟩
  generalize hcenv : genEnv scope (gcl X scope) s.heap.objs.size code builtinsNs X.env = cenv at hfr
  have hL : cenv.locals = s.heap.objs.size := by rw [← hcenv]; rfl
  have hcl : cenv.cells = gcl X scope := by rw [← hcenv]; rfl
  have hsc : cenv.scope = scope := by rw [← hcenv]; rfl
  have noc : ∀ {y k}, cenv.kindOf y = some k → k = .cell ∨ k = .free → scope.names.lookup y = some .free := fun {y k} hk h => by
    unfold Env.kindOf at hk
    rw [hsc] at hk
    rcases h with rfl | rfl
    · exact absurd rfl (hcell _ (PySem.mem_of_lookup hk))
    · exact hk
  have okB : (gcx X s H cenv fp A').Ok := by
    refine ⟨I.ok.mod, by show cenv.scope.kind = _; rw [hsc]; exact ok.kind, by show cenv.globals = _; rw [← hcenv]; exact I.ok.glob, by show cenv.builtins = _; rw [← hcenv]; rfl, by show s.heap.objs.size ≤ cenv.locals; rw [hL]; exact Nat.le_refl _,
      fun y z c e1 e2 => ?_, fun y hy => ?_, fun y c z e => ?_, fun _ => hA, hfr, .inr ⟨rfl, by rw [← hcenv]; rfl⟩, fun b hb => ⟨?_, fun y c e z => ?_⟩, I.bs, Nat.le_trans I.ok.bsz I.sz, fun b o e hb => ?_, fun b hb z => ?_, I.stack, I.stkFree⟩
    · have e1 : cenv.cells.lookup y = some c := e1
      have e2 : cenv.cells.lookup z = some c := e2
      rw [hcl] at e1 e2
      exact I.ok.inj y z c (mem e1).1 (mem e2).1
    · show ∃ c, cenv.cells.lookup y = some c
      rw [hcl]
      rcases hy with hy | hy
      · obtain ⟨c, h1, _⟩ := look (noc hy (.inl rfl)); exact ⟨c, h1⟩
      · obtain ⟨c, h1, _⟩ := look (noc hy (.inr rfl)); exact ⟨c, h1⟩
    · cases z
    · show b ≠ cenv.locals
      rw [hL]; exact Nat.ne_of_lt (hfp b hb).2
    · have e : cenv.cells.lookup y = some c := e
      rw [hcl] at e
      exact (hfp b hb).1.2.2.2.2.1 y c (mem e).1 z
    · rcases (hfp b hb).1.2.2.2.1 with z | z
      · exact I.ok.noex b o e z
      · exact absurd (Nat.lt_of_lt_of_le (Heap.lt_size e) (Nat.le_trans I.ok.bsz z)) (Nat.lt_irrefl _)
    · rcases List.mem_cons.mp (I.stkSub b z) with z | z
      · exact (hfp b hb).1.2.1 z
      · exact (hfp b hb).1.2.2.1 z
  refine ⟨okB, rfl, hg, Un.kept kp, ⟨m, ?_, fun i y av e1 e2 e3 => ?_⟩, fun y c e => ?_, ?_, fun y c e => ?_, fun p hp => ?_, I.hok.kept kp, by rw [wipe_length]; exact I.len⟩
  · show Heap.Ns _ cenv.locals _
    rw [hL]
    exact hn
  · obtain ⟨e2, hne⟩ := wipe_some e2
    have e3 : Vis cenv.scope y := e3
    have hfr : scope.names.lookup y = some .free := by
      rw [hsc] at e3
      have no : ∀ k : NameKind, scope.names.lookup y = some k → ¬ (k = .local ∨ k = .cell) := fun k e hh => by
        rcases ok.own _ (PySem.mem_of_lookup e) hh with e' | e'
        · obtain ⟨p, hp, hpy⟩ := List.mem_map.mp e'
          have e3 := ok.ix p hp
          have : p.1 = y := hpy
          rw [this] at e3
          exact hne (List.mem_map.mpr ⟨p, hp, nodup_ix hN e3 e1⟩)
        · exact e' (List.mem_of_getElem? e1)
      rcases e3 with e3 | e3 | e3
      · exact absurd (.inl rfl) (no _ e3)
      · exact absurd (.inr rfl) (no _ e3)
      · exact e3
    obtain ⟨m, hn, hl⟩ := I.loc
    have hvis : Vis X.env.scope y := (ok.free _ (PySem.mem_of_lookup hfr) rfl).elim (fun k => .inr (.inl k)) (fun k => .inr (.inr k))
    obtain ⟨w, r, q⟩ := hl i y av e1 e2 hvis
    have hk : cenv.kindOf y = some .free := by unfold Env.kindOf; rw [hsc]; exact hfr
    refine ⟨w, r, .inr ⟨.inr hk, ?_⟩⟩
    obtain ⟨c, h1, h2⟩ := look hfr
    rcases q with ⟨k, _⟩ | ⟨_, c', e', z⟩
    · have k : X.env.scope.names.lookup y = some .local := k
      rcases ok.free _ (PySem.mem_of_lookup hfr) rfl with k' | k' <;> rw [show X.env.scope.names.lookup y = _ from k'] at k <;> cases k
    · rw [h2] at e'; cases e'
      exact ⟨c, by show cenv.cells.lookup y = _; rw [hcl]; exact h1, z.keeps kp⟩
  · have e : cenv.cells.lookup y = some c := e
    rw [hcl] at e
    obtain ⟨w, z⟩ := I.cell y c (mem e).1
    exact ⟨w, z.keeps kp⟩
  · show H cenv.locals = none
    rw [hL]; exact I.hok.fresh (Nat.le_refl _)
  · have e : cenv.cells.lookup y = some c := e
    rw [hcl] at e
    exact I.freeC y c (mem e).1
  · exact absurd (show p ∈ ([] : List (Addr × Obj)) ++ [] from hp) (by simp)
end

/-- the iterable's items walked, the tests told one after another: sb, the value at which the walk stops -/
structure WalkG (J : It) (g : TG) (te : TE) (σw : L2.St) (vs : List Nat) (sb : Bool) (Q : VK) (W : Nat → Nat → Hp → Prop) : Prop where
  turn : ∀ i m H, W i m H → (J.stop i H ∧ Q (.bl (!sb)) H) ∨ (J.go i H ∧ ∀ x H', J.yld i H x H' → g x σw H' fun σ2 H2 => wipe σ2 vs = σw ∧ te σ2 H2 fun y H3 => ∃ k, y = .bl k ∧
    ((k = sb ∧ Q (.bl sb) H3) ∨ (k = !sb ∧ ∃ m', m' < m ∧ W (i + 1) m' H3)))
/-- what a generator's turn gives -/
def Yp (gX : Cx) (pn : List (Addr × Obj)) (σw : L2.St) (sb : Bool) (Q : VK) : Protocol := fun _ _ v s₁ kap => ∃ k : Bool, v = .bool k ∧
  ((k = sb ∧ ∃ H', Inv gX pn σw H' s₁ ∧ Q (.bl sb) H') ∨ (k = !sb ∧ (∃ H', Inv gX pn σw H' s₁) ∧ ∀ s'' : Shared, s''.heap = s₁.heap → s''.os = s₁.os → AllBare s''.gens → kap (.send .none) s''))
def Rp (gX : Cx) (pn : List (Addr × Obj)) (σw : L2.St) (sb : Bool) (Q : VK) : Nat → Shared → Shared → Prop := fun _ _ s₁ => ∃ H', Inv gX pn σw H' s₁ ∧ Q (.bl (!sb)) H'
theorem inv_gens {X : Cx} {pins : List (Addr × Obj)} {σ : L2.St} {H : Hp} {s s' : Shared} (I : Inv X pins σ H s) (h : s'.heap = s.heap) (ho : s'.os = s.os) (hg : AllBare s'.gens) : Inv X pins σ H s' :=
  ⟨I.ok, ho.trans I.os, hg, by rw [h]; exact I.base, by rw [h]; exact I.loc, by rw [h]; exact I.cell, I.free, I.freeC, by rw [h]; exact I.pin, by rw [h]; exact I.hok, I.len⟩
section
variable {gX : Cx} {Ag : Around} {elt tg iter : Expr} {scope : Scope} {pos : Pos} {it : Addr} {cenv : Env} {J : It} {fp : List Addr} {tn : Nat → Heap → Prop} {g : TG} {te : TE} {σw : L2.St} {vs : List Nat} {sb : Bool} {Q : VK} {W : Nat → Nat → Hp → Prop} {pn : List (Addr × Obj)}
theorem seg_loop (hA : gX.A = Ag.over (.compLoop (.GeneratorExp elt [⟨tg, iter, [], 0⟩] scope pos) 0 (.ref it) .none cenv) []) (he : gX.env = cenv) (hx : gX.xe = fun _ _ => False) (hco : cenv.scope.isCoroutine = false) (T : Turn gX.prog gX.w gX.K tg J fp it tn) (hc : gX.calm = true)
    (hfp : ∀ b ∈ fp, b ≠ gX.env.locals ∧ b ∉ gX.fs ∧ b ∈ gX.ex ∧ (∀ x c, gX.env.cells.lookup x = some c → c ≠ b) ∧ ∀ p ∈ gX.pn ++ pn, p.1 ≠ b)
    (hl : σw.length = gX.N.length) (hw : wipe σw vs = σw) (hwl : ∀ σ : L2.St, (wipe σ vs).length = σ.length)
    (pg : PG gX tg g) (pe : PE gX elt te) (Wk : WalkG J g te σw vs sb Q W) :
    ∀ (n i m : Nat) (s₀ s : Shared) (H : Hp), m < n → Inv gX pn σw H s → tn i s.heap → (∀ b ∈ fp, H b = none) → W i m H →
      Seg (model gX.prog gX.w) Ag (fun n s₀ r s₁ => r = .ok .next ∧ Rp gX pn σw sb Q n s₀ s₁) (Yp gX pn σw sb Q) n s₀
        (.compLoop (.GeneratorExp elt [⟨tg, iter, [], 0⟩] scope pos) 0 (.ref it) .none cenv)
        ((model gX.prog gX.w).den (.compLoop (.GeneratorExp elt [⟨tg, iter, [], 0⟩] scope pos) 0 (.ref it) .none cenv)) [] s := by
  have fok : ∀ {H : Hp}, (∀ b ∈ fp, H b = none) → ∀ b ∈ fp, FpOk gX pn H b := fun hn b hb => ⟨hn b hb, (hfp b hb).1, (hfp b hb).2.1, .inl (hfp b hb).2.2.1, (hfp b hb).2.2.2.1, (hfp b hb).2.2.2.2⟩
  intro n
  induction n with
  | zero => intro i m s₀ s H hm; exact absurd hm (Nat.not_lt_zero _)
  | succ n ih =>
    intro i m s₀ s H hm I st hn w
    show Seg _ Ag _ _ _ s₀ _ ((compTurn (.GeneratorExp elt [⟨tg, iter, [], 0⟩] scope pos) 0 (.ref it) .none cenv).onRaise (leaving cenv)) [] s
    rw [compTurn_gen, Sem.onRaise_eq_wrap]
    refine seg_bind_wrap (wpAny_standAt ?_)
    rcases Wk.turn i m H w with ⟨stop, q⟩ | ⟨go, step⟩
    · have td := T.done gX rfl rfl rfl hc i pn s _ H (fun _ _ => False) I (fok hn) st stop
      rw [hA] at td
      refine seg_bind_wrap (thnF td fun r s1 ⟨hr, I1⟩ => ?_)
      subst hr
      exact seg_end (.ok .next) ⟨rfl, H, I1, q⟩
    · have ti := T.item gX rfl rfl rfl hc i pn s _ H (fun _ _ => False) I (fok hn) st go
      rw [hA] at ti
      refine seg_bind_wrap (thnF ti fun r s1 ⟨u, hr, h1⟩ => ?_)
      subst hr
      refine seg_bind_wrap (thnF h1 fun _ s2 ⟨x, H2, I2, r2, y2, st2, n2⟩ => ?_)
      have I2' := I2.pinned (fok n2) (T.obj _ _ st2)
      have pg2 := pg.run _ s2 _ H2 x u _ I2' r2 (step x H2 y2)
      rw [hA, he, hx] at pg2
      refine seg_bind_wrap (thnF pg2 fun _ s3 ⟨σ3, H3, I3, hw3, q3⟩ => ?_)
      refine seg_bind_wrap (wpAny_tests_nil ?_)
      simp only [if_true]
      have hy : ∀ v, yieldOut cenv v = yieldValue v := fun v => by simp only [yieldOut, hco, Bool.false_eq_true, if_false]
      simp only [hy]
      rw [Sem.bind_eq_wrap', Sem.bind_eq_wrap', Sem.wrap_wrap, Sem.wrap_wrap]
      have pe2 := pe.run _ s3 σ3 H3 _ I3 q3
      rw [hA, he, hx] at pe2
      refine seg_wrap (thnF pe2 fun y s4 ⟨yv, H4, I4, r4, k, hk, q4⟩ => ?_)
      subst hk
      have r4 : y = .bool k := r4
      subst r4
      have pin' : ∀ b ∈ fp, ∀ o, s2.heap.get? b = some o → s4.heap.get? b = some o ∧ H4 b = none := fun b hb o e =>
        let z := I4.pin (b, o) (List.mem_append_right _ (List.mem_append_right _ (mem_pinsAt hb e)))
        ⟨z.1, z.2.1⟩
      have I5 : Inv gX pn σw H4 s4 := (I4.unpinned (pins := pn)).weak (by rw [← hw3, hwl]) fun j v e => by
        rw [← hw3] at e
        exact (wipe_some e).1
      refine seg_at (seg_yield rfl rfl rfl ⟨k, rfl, ?_⟩)
      rcases q4 with ⟨hk, q4⟩ | ⟨hk, m', hm', w'⟩
      · exact .inl ⟨hk, H4, I5, q4⟩
      · refine .inr ⟨hk, ⟨H4, I5⟩, fun s'' h1 h2 h3 => ?_⟩
        refine seg_again rfl (ih (i + 1) m' s'' s'' H4 (by omega) (inv_gens I5 h1 h2 h3) ?_ (fun b hb => ?_) w')
        · rw [h1]
          exact T.keep _ _ _ st2 fun b hb o e => (pin' b hb o e).1
        · obtain ⟨o, e, _⟩ := T.obj _ _ st2 b hb
          exact (pin' b hb o e).2
/-- the generator's first turn -/
theorem seg_start (hA : gX.A = Ag.over (.compLoop (.GeneratorExp elt [⟨tg, iter, [], 0⟩] scope pos) 0 (.ref it) .none cenv) []) (he : gX.env = cenv) (hx : gX.xe = fun _ _ => False) (hco : cenv.scope.isCoroutine = false) (T : Turn gX.prog gX.w gX.K tg J fp it tn) (hc : gX.calm = true)
    (hfp : ∀ b ∈ fp, b ≠ gX.env.locals ∧ b ∉ gX.fs ∧ b ∈ gX.ex ∧ (∀ x c, gX.env.cells.lookup x = some c → c ≠ b) ∧ ∀ p ∈ gX.pn ++ pn, p.1 ≠ b)
    (hl : σw.length = gX.N.length) (hw : wipe σw vs = σw) (hwl : ∀ σ : L2.St, (wipe σ vs).length = σ.length)
    (pg : PG gX tg g) (pe : PE gX elt te) (Wk : WalkG J g te σw vs sb Q W) (n m : Nat) (s₀ s : Shared) (H : Hp) (hm : m < n) (I : Inv gX pn σw H s) (st : tn 0 s.heap) (hn : ∀ b ∈ fp, H b = none) (w : W 0 m H) :
      Seg (model gX.prog gX.w) Ag (fun n s₀ r s₁ => r = .ok .next ∧ Rp gX pn σw sb Q n s₀ s₁) (Yp gX pn σw sb Q) n s₀
        (.compStart (.GeneratorExp elt [⟨tg, iter, [], 0⟩] scope pos) 0 (.ref it) .none cenv)
        ((model gX.prog gX.w).den (.compStart (.GeneratorExp elt [⟨tg, iter, [], 0⟩] scope pos) 0 (.ref it) .none cenv)) [] s := by
  have loop := seg_loop hA he hx hco T hc hfp hl hw hwl pg pe Wk n 0 m s₀ s H hm I st hn w
  show Seg _ Ag _ _ _ s₀ _ ((compStart (.GeneratorExp elt [⟨tg, iter, [], 0⟩] scope pos) 0 (.ref it) .none cenv).onRaise (leaving cenv)) [] s
  unfold compStart
  rw [Sem.onRaise_eq_wrap]
  show Seg _ Ag _ _ _ s₀ _ ((ask >>= _).wrap _ _ _ _) [] s
  refine seg_bind_wrap (wpAny_askSetting ?_)
  split
  · exact seg_again rfl loop
  · first
      | exact seg_bind_wrap (wpAny_rule (seg_bind_wrap (wpAny_standAt (seg_bind_wrap (T.self _ 0 s _ _ st (seg_again rfl loop))))))
      | (refine seg_bind_wrap (wpAny_rule ?_); show Seg _ Ag _ _ _ s₀ _ ((standAt iter.pos >>= _).wrap _ _ _ _) [] s; exact seg_bind_wrap (wpAny_standAt (seg_bind_wrap (T.self _ 0 s _ _ st (seg_again rfl loop)))))
end
/-- all(..), any(..): the loop over the generator at a -/
theorem all_loop {gX : Cx} {A : Around} {a : Addr} {gn : Nat} {go : Obj} {nm qn : Value} {σw : L2.St} {Q : VK} {R : Result → Shared → Prop} (hh : A.handled = none) (hroom : A.depth < recursionLimit)
    (hgo : go.cls = .type "generator" ∧ go.data = .fields #[.int gn 0, nm, qn] ∧ go.slots = #[])
    (hR : ∀ (b : Bool) (s' : Shared) (H' : Hp), Inv gX [(a, go)] σw H' s' → Q (.bl b) H' → R (.ok (.ret (.bool b))) s') :
    ∀ (n : Nat) (s : Shared) (gs : GenState) (H : Hp), Inv gX [(a, go)] σw H s → s.gens[gn]? = some gs →
      gs.Goes (model gX.prog gX.w) A.in1.in1 (fun n s₀ r s₁ => r = .ok .next ∧ Rp gX [(a, go)] σw false Q n s₀ s₁) (Yp gX [(a, go)] σw false Q) n (.send .none) (s.setGen gn .running) →
      codeAny (model gX.prog gX.w) A (.builtin "all.loop" ⟨[.ref a], []⟩) R s := by
  have isg : ∀ {H : Hp} {s : Shared}, Inv gX [(a, go)] σw H s → s.heap.IsGen a gn := fun I => ⟨go, nm, qn, (I.pin (a, go) (List.mem_append_right _ (List.mem_singleton.mpr rfl))).1, hgo.1, hgo.2.1, hgo.2.2⟩
  have bset : ∀ {s : Shared} {x : GenState}, AllBare s.gens → x.bare = true → AllBare (s.setGen gn x).gens := fun {s x} hb hx y hy => by
    have hy : y ∈ s.gens.setIfInBounds gn x := hy
    obtain ⟨i, hi, rfl⟩ := Array.mem_iff_getElem.mp hy
    rw [Array.getElem_setIfInBounds]
    split
    · exact hx
    · exact hb _ (Array.getElem_mem _)
    rw [Array.size_setIfInBounds] at hi; exact hi
  have getset : ∀ {s : Shared} {x y : GenState}, s.gens[gn]? = some y → (s.setGen gn x).gens[gn]? = some x := fun h => setGen_self h
  intro n
  induction n with
  | zero =>
    intro s gs H I hgs hgo'
    refine codeAny_builtin F.entry_all_loop ?_
    rw [Around.under_plainId F.plain_all_loop _]
    show wpAny _ A.in1 (pyNext (.ref a) >>= _) _ _ s
    refine wpAny_bind (GenW.wpAny_gsz (Nat.le_refl _) (wpAny_pyNext_genexpQ (A := A.in1) hh I.nolimit hroom (isg I) hgs hgo' (fun v s₁ gs' hb hv hsz => ?_) (fun s₁ hp h' hk hsz => ?_)))
    · obtain ⟨k, rfl, ⟨rfl, H', I', q⟩ | ⟨rfl, ⟨H', I'⟩, kap⟩⟩ := hv
      · refine wpAny_bind (wpAny_holding (wpAny_truthy_bool ?_))
        refine wpAny_bind (wpAny_letGo ?_)
        simp only [Bool.false_eq_true, if_false]
        refine wpAny_bind (wpAny_rule (wpAny_pure ?_))
        exact hR _ _ H' (inv_gens I' rfl rfl (bset I'.bare hb)) q
      · exact (kap s₁ rfl rfl I'.bare).elim
    · obtain ⟨H', I', q⟩ := hp
      refine wpAny_bind (wpAny_rule (wpAny_pure ?_))
      refine hR _ _ H' ?_ q
      exact inv_gens (I'.kept (t' := s₁.toks) (h' := h') fun b u e => hk b u e) rfl rfl (bset I'.bare rfl)
  | succ n ih =>
    intro s gs H I hgs hgo'
    refine codeAny_builtin F.entry_all_loop ?_
    rw [Around.under_plainId F.plain_all_loop _]
    show wpAny _ A.in1 (pyNext (.ref a) >>= _) _ _ s
    refine wpAny_bind (GenW.wpAny_gsz (Nat.le_refl _) (wpAny_pyNext_genexpQ (A := A.in1) hh I.nolimit hroom (isg I) hgs hgo' (fun v s₁ gs' hb hv hsz => ?_) (fun s₁ hp h' hk hsz => ?_)))
    · obtain ⟨k, rfl, ⟨rfl, H', I', q⟩ | ⟨rfl, ⟨H', I'⟩, kap⟩⟩ := hv
      · refine wpAny_bind (wpAny_holding (wpAny_truthy_bool ?_))
        refine wpAny_bind (wpAny_letGo ?_)
        simp only [Bool.false_eq_true, if_false]
        refine wpAny_bind (wpAny_rule (wpAny_pure ?_))
        exact hR _ _ H' (inv_gens I' rfl rfl (bset I'.bare hb)) q
      · refine wpAny_bind (wpAny_holding (wpAny_truthy_bool ?_))
        refine wpAny_bind (wpAny_letGo ?_)
        simp only [Bool.not_false, if_true]
        refine wpAny_pure ⟨plainId_quiet F.plain_all_loop _, ih _ gs' H' (inv_gens I' rfl rfl (bset I'.bare hb)) ?_ ?_⟩
        · have hlt : gn < s.gens.size := (Array.getElem?_eq_some_iff.mp hgs).1
          have hlt2 : gn < s₁.gens.size := by
            have : (s₁.setGen gn gs').gens.size = s₁.gens.size := Array.size_setIfInBounds
            omega
          show (s₁.gens.setIfInBounds gn gs')[gn]? = _
          simp [hlt2]
        · exact kap _ rfl rfl (bset (bset I'.bare hb) rfl)
    · obtain ⟨H', I', q⟩ := hp
      refine wpAny_bind (wpAny_rule (wpAny_pure ?_))
      refine hR _ _ H' ?_ q
      exact inv_gens (I'.kept (t' := s₁.toks) (h' := h') fun b u e => hk b u e) rfl rfl (bset I'.bare rfl)
/-- all(..), any(..): the loop over the generator at a -/
theorem any_loop {gX : Cx} {A : Around} {a : Addr} {gn : Nat} {go : Obj} {nm qn : Value} {σw : L2.St} {Q : VK} {R : Result → Shared → Prop} (hh : A.handled = none) (hroom : A.depth < recursionLimit)
    (hgo : go.cls = .type "generator" ∧ go.data = .fields #[.int gn 0, nm, qn] ∧ go.slots = #[])
    (hR : ∀ (b : Bool) (s' : Shared) (H' : Hp), Inv gX [(a, go)] σw H' s' → Q (.bl b) H' → R (.ok (.ret (.bool b))) s') :
    ∀ (n : Nat) (s : Shared) (gs : GenState) (H : Hp), Inv gX [(a, go)] σw H s → s.gens[gn]? = some gs →
      gs.Goes (model gX.prog gX.w) A.in1.in1 (fun n s₀ r s₁ => r = .ok .next ∧ Rp gX [(a, go)] σw true Q n s₀ s₁) (Yp gX [(a, go)] σw true Q) n (.send .none) (s.setGen gn .running) →
      codeAny (model gX.prog gX.w) A (.builtin "any.loop" ⟨[.ref a], []⟩) R s := by
  have isg : ∀ {H : Hp} {s : Shared}, Inv gX [(a, go)] σw H s → s.heap.IsGen a gn := fun I => ⟨go, nm, qn, (I.pin (a, go) (List.mem_append_right _ (List.mem_singleton.mpr rfl))).1, hgo.1, hgo.2.1, hgo.2.2⟩
  have bset : ∀ {s : Shared} {x : GenState}, AllBare s.gens → x.bare = true → AllBare (s.setGen gn x).gens := fun {s x} hb hx y hy => by
    have hy : y ∈ s.gens.setIfInBounds gn x := hy
    obtain ⟨i, hi, rfl⟩ := Array.mem_iff_getElem.mp hy
    rw [Array.getElem_setIfInBounds]
    split
    · exact hx
    · exact hb _ (Array.getElem_mem _)
    rw [Array.size_setIfInBounds] at hi; exact hi
  have getset : ∀ {s : Shared} {x y : GenState}, s.gens[gn]? = some y → (s.setGen gn x).gens[gn]? = some x := fun h => setGen_self h
  intro n
  induction n with
  | zero =>
    intro s gs H I hgs hgo'
    refine codeAny_builtin F.entry_any_loop ?_
    rw [Around.under_plainId F.plain_any_loop _]
    show wpAny _ A.in1 (pyNext (.ref a) >>= _) _ _ s
    refine wpAny_bind (GenW.wpAny_gsz (Nat.le_refl _) (wpAny_pyNext_genexpQ (A := A.in1) hh I.nolimit hroom (isg I) hgs hgo' (fun v s₁ gs' hb hv hsz => ?_) (fun s₁ hp h' hk hsz => ?_)))
    · obtain ⟨k, rfl, ⟨rfl, H', I', q⟩ | ⟨rfl, ⟨H', I'⟩, kap⟩⟩ := hv
      · refine wpAny_bind (wpAny_holding (wpAny_truthy_bool ?_))
        refine wpAny_bind (wpAny_letGo ?_)
        simp only [if_true]
        refine wpAny_bind (wpAny_rule (wpAny_pure ?_))
        exact hR _ _ H' (inv_gens I' rfl rfl (bset I'.bare hb)) q
      · exact (kap s₁ rfl rfl I'.bare).elim
    · obtain ⟨H', I', q⟩ := hp
      refine wpAny_bind (wpAny_rule (wpAny_pure ?_))
      refine hR _ _ H' ?_ q
      exact inv_gens (I'.kept (t' := s₁.toks) (h' := h') fun b u e => hk b u e) rfl rfl (bset I'.bare rfl)
  | succ n ih =>
    intro s gs H I hgs hgo'
    refine codeAny_builtin F.entry_any_loop ?_
    rw [Around.under_plainId F.plain_any_loop _]
    show wpAny _ A.in1 (pyNext (.ref a) >>= _) _ _ s
    refine wpAny_bind (GenW.wpAny_gsz (Nat.le_refl _) (wpAny_pyNext_genexpQ (A := A.in1) hh I.nolimit hroom (isg I) hgs hgo' (fun v s₁ gs' hb hv hsz => ?_) (fun s₁ hp h' hk hsz => ?_)))
    · obtain ⟨k, rfl, ⟨rfl, H', I', q⟩ | ⟨rfl, ⟨H', I'⟩, kap⟩⟩ := hv
      · refine wpAny_bind (wpAny_holding (wpAny_truthy_bool ?_))
        refine wpAny_bind (wpAny_letGo ?_)
        simp only [if_true]
        refine wpAny_bind (wpAny_rule (wpAny_pure ?_))
        exact hR _ _ H' (inv_gens I' rfl rfl (bset I'.bare hb)) q
      · refine wpAny_bind (wpAny_holding (wpAny_truthy_bool ?_))
        refine wpAny_bind (wpAny_letGo ?_)
        simp only [Bool.not_true, Bool.false_eq_true, if_false]
        refine wpAny_pure ⟨plainId_quiet F.plain_any_loop _, ih _ gs' H' (inv_gens I' rfl rfl (bset I'.bare hb)) ?_ ?_⟩
        · have hlt : gn < s.gens.size := (Array.getElem?_eq_some_iff.mp hgs).1
          have hlt2 : gn < s₁.gens.size := by
            have : (s₁.setGen gn gs').gens.size = s₁.gens.size := Array.size_setIfInBounds
            omega
          show (s₁.gens.setIfInBounds gn gs')[gn]? = _
          simp [hlt2]
        · exact kap _ rfl rfl (bset (bset I'.bare hb) rfl)
    · obtain ⟨H', I', q⟩ := hp
      refine wpAny_bind (wpAny_rule (wpAny_pure ?_))
      refine hR _ _ H' ?_ q
      exact inv_gens (I'.kept (t' := s₁.toks) (h' := h') fun b u e => hk b u e) rfl rfl (bset I'.bare rfl)

theorem wipe_set (σ : L2.St) (v : Nat) : ∀ vs : List Nat, wipe (σ.set v none) vs = (wipe σ vs).set v none
  | [] => rfl
  | w :: vs => by
    show (wipe (σ.set v none) vs).set w none = ((wipe σ vs).set w none).set v none
    rw [wipe_set σ v vs]
    by_cases h : v = w
    · subst h; rfl
    · rw [List.set_comm _ _ h]
theorem wipe_wipe (σ : L2.St) : ∀ vs : List Nat, wipe (wipe σ vs) vs = wipe σ vs
  | [] => rfl
  | v :: vs => by
    show (wipe ((wipe σ vs).set v none) vs).set v none = (wipe σ vs).set v none
    rw [wipe_set, wipe_wipe σ vs, List.set_set]
/-- all(test for target in iterable), any(..) -/
def tAG (P : Addr) (wi : TI) (g : TG) (te : TE) (vs : List Nat) (sb : Bool) : TE := fun σ H Q => wi σ H fun J H1 => GxR.TabG H1 P ∧ ∀ H2, GxR.Tabbed P H1 H2 → ∃ W : Nat → Nat → Hp → Prop, (∃ m, W 0 m H2) ∧ WalkG J g te (wipe σ vs) vs sb Q W

theorem bare_set {s : Shared} {gn : Nat} {x : GenState} (hb : AllBare s.gens) (hx : x.bare = true) : AllBare (s.setGen gn x).gens := fun y hy => by
  have hy : y ∈ s.gens.setIfInBounds gn x := hy
  obtain ⟨i, hi, rfl⟩ := Array.mem_iff_getElem.mp hy
  rw [Array.getElem_setIfInBounds]
  split
  · exact hx
  · exact hb _ (Array.getElem_mem _)
  rw [Array.size_setIfInBounds] at hi; exact hi

theorem pe_all {X : Cx} {c P : Addr} {elt tg iter : Expr} {p pos gpos : Pos} {scope : Scope} {own : List (Str × Nat)} {wi : TI} {g : TG} {te : TE} {k : Nat}
    (hr : Room (k + 1) X.A) (hc : X.calm = true) (hN : X.N.Nodup) (hg : Gl X "all") (hm : X.mg "all" = none) (TB : GxR.TabB X.base X.mg c P) (hcode : X.env.code = .ref c) (hi : PI X tg iter wi) (ok : BlkOk X.N X.env.scope scope own)
    (hcell : ∀ y ∈ scope.names, y.2 ≠ .cell) (hco : scope.isCoroutine = false) (h0 : scope.names.lookup (".0" : Str) = some NameKind.local)
    (hG : ∀ (s : Shared) (H : Hp) (C : Addr) (code : Value) (fp : List Addr) (A' : Around), Room k A' → PG (gcx X s H (genEnv scope (gcl X scope) C code builtinsNs X.env) fp A') tg g)
    (hE : ∀ (s : Shared) (H : Hp) (C : Addr) (code : Value) (fp : List Addr) (A' : Around), Room k A' → PE (gcx X s H (genEnv scope (gcl X scope) C code builtinsNs X.env) fp A') elt te)
    (hs : ∀ v, genFold iter X.env v = pure v)
    (he : starEach [.GeneratorExp elt [⟨tg, iter, [], 0⟩] scope gpos] X.env = (false, eval (.GeneratorExp elt [⟨tg, iter, [], 0⟩] scope gpos) X.env) :: starEach [] X.env := by rfl) :
    PE X (.Call (.Name "all" p) [.GeneratorExp elt [⟨tg, iter, [], 0⟩] scope gpos] [] pos) (tAG P wi g te (own.map (·.2)) false) := by
  refine ⟨fun pins s σ H Q I h => ?_⟩
  refine wpAny_Call_Name_kw (ld_blt I hg hm boot_all ?_)
  refine PyProof.Rows.callWith_builtin1 ?_ he (by rfl)
  rw [he]
  show wpAny _ _ (spliced ((false, eval (.GeneratorExp elt [⟨tg, iter, [], 0⟩] scope gpos) X.env) :: backTo pos (starEach [] X.env))) _ _ s
  have hfree : ∀ y ∈ scope.names, y.2 = .free → ∃ c, X.env.cells.lookup y.1 = some c := fun y hy e => by
    rcases ok.free y hy e with k | k
    · exact I.ok.has _ (.inl k)
    · exact I.ok.has _ (.inr k)
  refine Calls.spliced_cons (wpAny_GeneratorExp_make hco (closure_ok hfree) hcell h0 ok.kind (by have := hr.dp; omega) ?_ hs)
  refine thn (hi.run pins s σ H _ I h) fun xv s1 h1 => thn h1 fun itv s2 h2 => ?_
  obtain ⟨it, fp, tn, J, H1, rfl, I2, T, st2, f2, htab, q⟩ := h2
  refine ⟨I2.nolimit, ?_⟩
  obtain ⟨ps, hP, ht⟩ := htab
  have hPs : s2.heap.get? P = some { cls := .none, data := .fields ps } := I2.hok P _ hP
  have cd : PySem.W.CodeHd s2.heap c P := TB.code.keeps fun b u e => I2.bk b u e
  have cont : ∀ (code : Value) (h3 : Heap) (tk : Nat) (ps' : Array Value), Heap.ExtBut P s2.heap h3 → s2.heap.objs.size ≤ h3.objs.size → h3.get? P = some { cls := .none, data := .fields ps' } → (∃ more, ps' = ps ++ more) → TriplesOk ps'.toList →
      wpAny (model X.prog X.w) X.A (builtinsFor X.env.globals X.env.builtins) (fun bi s₄ => ∀ h', h'.Ns s₄.heap.objs.size (fun y => if y = ".0" then some (.ref it) else none) → Heap.SameBut s₄.heap.objs.size (s₄.heap.push { cls := .type "frame", data := .dict #[] }) h' →
        wpAny (model X.prog X.w) X.A (spliced (backTo pos (starEach [] X.env))) (fun vs s₁ => wpAny (model X.prog X.w) X.A (call (.builtin "all") (.ref h'.objs.size :: vs)) (EP X pins σ Q) X.xe s₁) X.xe { s₄ with
            gens := s₄.gens.push (.fresh (.compStart (.GeneratorExp elt [⟨tg, iter, [], 0⟩] scope gpos) 0 (.ref it) .none (genEnv scope (gcl X scope) s₄.heap.objs.size code bi X.env))),
            toks := s₄.toks + 1 + 1 + 1,
            heap := h'.push { cls := .type "generator", data := .fields #[.int s₄.gens.size 0, .str "<genexpr>" (s₄.toks + 1), .str (X.env.qual ++ "<genexpr>") (s₄.toks + 1 + 1)] } }) X.xe { s2 with heap := h3, toks := tk } := by
    intro code h3 tk ps' hx hsz hP3 hmore ht3
    obtain ⟨more, em⟩ := hmore
    obtain ⟨bm, ob, e1, e2, e3, e4, e5, e6, e7, e8⟩ := TB.bm
    refine wpAny_builtinsFor (m := X.mg) (by rw [I2.ok.glob]; exact (I2.mod.glob.keeps I2.bk).extBut hx TB.gP) e1 e2 (hx _ _ e4 (I2.bk _ _ e5)) e6 e7 e8 ?_
    -- the state ahead of the generator
    have I3 : Inv X pins σ (upd H1 P (.tbl ps')) { s2 with heap := h3, toks := tk } := by
      rw [em]
      exact GxR.inv_tab (g' := s2.gens) (d' := s2.drawn) I2 hP (fun b o hb e => hx b o hb e) (by rw [← em]; exact hP3) I2.bare
    have hT2 : GxR.Tabbed P H1 (upd H1 P (.tbl ps')) := ⟨⟨ps', upd_same, ht3⟩, fun b hb => upd_ne hb⟩
    obtain ⟨W, ⟨m0, w0⟩, Wk⟩ := q _ hT2
    have fpP : ∀ b ∈ fp, b ≠ P := fun b hb z => by
      have := (f2 b hb).1
      rw [z, hP] at this; cases this
    have st3 : tn 0 h3 := T.keep _ _ _ st2 fun b hb o e => hx b o (fpP b hb) e
    intro h' hn' hs'
    have hn' : h'.Ns h3.objs.size (fun y => if y = ".0" then some (.ref it) else none) := hn'
    have hs' : Heap.SameBut h3.objs.size (h3.push { cls := .type "frame", data := .dict #[] }) h' := hs'
    have hsz' : h'.objs.size = h3.objs.size + 1 := by rw [hs'.1, Heap.size_push]
    have keep' : ∀ b o, h3.get? b = some o → h'.get? b = some o := fun b o e => hs'.extBut b o (Nat.ne_of_lt (Heap.lt_size e)) (Heap.get?_push_of_some _ e)
    generalize hgo : ({ cls := .type "generator", data := .fields #[.int s2.gens.size 0, .str "<genexpr>" (tk + 1), .str (X.env.qual ++ "<genexpr>") (tk + 1 + 1)] } : Obj) = go
    generalize hs4 : ({ s2 with heap := h3, toks := tk } : Shared) = s4 at I3
    have e4h : s4.heap = h3 := by rw [← hs4]
    have e4o : s4.os = s2.os := by rw [← hs4]
    have e4g : s4.gens = s2.gens := by rw [← hs4]
    generalize hH2 : upd H1 P (.tbl ps') = H2 at I3 w0
    have n2 : ∀ b ∈ fp, H2 b = none := fun b hb => by rw [← hH2, upd_ne (fpP b hb)]; exact (f2 b hb).1
    have sz2 : ∀ b ∈ fp, b < s4.heap.objs.size := fun b hb => by
      obtain ⟨o, e, _⟩ := T.obj _ _ st3 b hb
      rw [e4h]; exact Heap.lt_size e
    have f3 : ∀ b ∈ fp, FpOk X pins H2 b ∧ b < s4.heap.objs.size := fun b hb => ⟨⟨n2 b hb, (f2 b hb).2⟩, sz2 b hb⟩
    generalize hce : genEnv scope (gcl X scope) h3.objs.size code builtinsNs X.env = cenv
    generalize hA : X.A.in1.in1.over (.compLoop (.GeneratorExp elt [⟨tg, iter, [], 0⟩] scope gpos) 0 (.ref it) .none cenv) [] = A'
    have hA1 : A'.handled = none := by rw [← hA]; exact hr.hd
    have hA2 : A'.frames = some (cenv :: X.stack) := by
      rw [← hA]
      show pushEnvs [cenv] X.A.frames = _
      rw [I2.ok.frames]; rfl
    have hA3 : Room k A' := by
      refine ⟨hA1, ?_, ?_⟩
      · have := hr.dp
        rw [← hA]
        show X.A.depth + 1 + 3 * k + 5 < recursionLimit
        omega
      · have := hr.un
        rw [← hA]
        show X.A.units + 1 + 1 + 3 + 16 * k + 200 < cLine
        omega
    have keep5 : ∀ b o, s4.heap.get? b = some o → (h'.push go).get? b = some o := fun b o e => Heap.get?_push_of_some _ (keep' b o (by rw [← e4h]; exact e))
    have gbare : AllBare (s2.gens.push (.fresh (.compStart (.GeneratorExp elt [⟨tg, iter, [], 0⟩] scope gpos) 0 (.ref it) .none cenv))) := I2.bare.push rfl
    have I5 : Inv (gcx X s4 H2 cenv fp A') [] (wipe σ (own.map (·.2))) H2 { s4 with heap := h'.push go, gens := s2.gens.push (.fresh (.compStart (.GeneratorExp elt [⟨tg, iter, [], 0⟩] scope gpos) 0 (.ref it) .none cenv)), toks := tk + 1 + 1 + 1 } := by
      have z := gen_start (code := code) (A' := A') (h' := h'.push go) (g' := s2.gens.push (.fresh (.compStart (.GeneratorExp elt [⟨tg, iter, [], 0⟩] scope gpos) 0 (.ref it) .none cenv))) (t' := tk + 1 + 1 + 1) (m := fun y => if y = ".0" then some (.ref it) else none) I3 ok hN f3 hcell hA1 (by rw [e4h, hce]; exact hA2) (by rw [e4h]; exact hn'.push _) keep5 gbare
      rw [e4h, hce] at z
      exact z
    have hclt : h'.objs.size ∉ frs X.stack := fun hb => by
      obtain ⟨_, o, ho, _⟩ := I3.stack.mem hb
      have z := Heap.lt_size ho
      rw [e4h] at z
      have z2 : (h'.objs.size : Nat) < h3.objs.size := z
      omega
    have hgf : go.isFreed = false := by rw [← hgo]; rfl
    have hgc : go.cls = .type "generator" ∧ go.data = .fields #[.int s2.gens.size 0, .str "<genexpr>" (tk + 1), .str (X.env.qual ++ "<genexpr>") (tk + 1 + 1)] ∧ go.slots = #[] := by rw [← hgo]; exact ⟨rfl, rfl, rfl⟩
    have hcl : cenv.locals = h3.objs.size := by rw [← hce]; rfl
    have hcs : cenv.scope = scope := by rw [← hce]; rfl
    have I6 := I5.pins_of (pins' := [(h'.objs.size, go)]) fun p hp => by
      rw [List.mem_singleton.mp hp]
      refine ⟨Heap.get?_push_size _ hgf, I3.hok.fresh (by rw [e4h]; omega), ?_, hclt, fun v z => ?_⟩
      · show h'.objs.size ≠ cenv.locals
        rw [hcl]; omega
      · have z : go.data = .cell v := z
        rw [hgc.2.1] at z; cases z
    have pg := hG s4 H2 h3.objs.size code fp A' hA3
    have pe := hE s4 H2 h3.objs.size code fp A' hA3
    rw [hce] at pg pe
    have st5 : tn 0 (h'.push go) := T.keep _ _ _ st3 fun b hb o e => Heap.get?_push_of_some _ (keep' b o e)
    have wl : ∀ σ : L2.St, (wipe σ (own.map (·.2))).length = σ.length := fun σ => wipe_length σ _
    have ww : wipe (wipe σ (own.map (·.2))) (own.map (·.2)) = wipe σ (own.map (·.2)) := wipe_wipe _ _
    have goes : ∀ s6 : Shared, s6.heap = h'.push go → s6.os = s4.os → AllBare s6.gens → GenState.Goes (model X.prog X.w) X.A.in1.in1 (fun n s₀ r s₁ => r = .ok .next ∧ Rp (gcx X s4 H2 cenv fp A') [(h'.objs.size, go)] (wipe σ (own.map (·.2))) false Q n s₀ s₁) (Yp (gcx X s4 H2 cenv fp A') [(h'.objs.size, go)] (wipe σ (own.map (·.2))) false Q) (m0 + 1)
        (.fresh (.compStart (.GeneratorExp elt [⟨tg, iter, [], 0⟩] scope gpos) 0 (.ref it) .none cenv)) (.send .none) s6 := fun s6 h1 h2 h3' =>
      ⟨rfl, seg_start (gX := gcx X s4 H2 cenv fp A') (Ag := X.A.in1.in1) hA.symm rfl rfl (by rw [hcs]; exact hco) T hc (fun b hb => ⟨(I5.ok.exf b hb).1, I5.ok.exfs b hb, hb, fun x c e => (I5.ok.exf b hb).2 x c e, fun p hp => by
          rw [List.mem_singleton.mp (show p ∈ [(h'.objs.size, go)] from hp)]
          have z1 := sz2 b hb
          rw [e4h] at z1
          have z2 : @LT.lt Nat _ b h3.objs.size := z1
          exact fun z => by
            have z : @Eq Nat h'.objs.size b := z
            rw [hsz'] at z
            rw [← z] at z2
            exact absurd z2 (Nat.not_lt.mpr (Nat.le_succ _))⟩) (by rw [wl]; exact I5.len ▸ (wl σ).symm ▸ rfl) ww wl pg pe Wk (m0 + 1) m0 s6 s6 H2 (Nat.lt_succ_self _) (inv_gens I6 h1 h2 h3') (by rw [h1]; exact st5) n2 w0⟩
    refine Calls.spliced_nil ?_
    refine call_function_tree F.kind_all F.plain_all F.entry_all (F.args_all1 _) ?_
    unfold Builtin.«all»
    refine wpAny_bind (m := oneArg "all" _) (wpAny_pure ?_)
    refine wpAny_bind (wpAny_pyIter_gen (g := s2.gens.size) ⟨go, _, _, Heap.get?_push_size _ hgf, hgc.1, hgc.2.1, hgc.2.2⟩ ?_)
    refine wpAny_pure ⟨plainId_quiet F.plain_all_loop _, ?_⟩
    refine all_loop (gX := gcx X s4 H2 cenv fp A') (A := X.A) (a := h'.objs.size) (gn := s2.gens.size) (go := go) (σw := wipe σ (own.map (·.2))) (Q := Q) hr.hd (by have := hr.dp; omega) hgc (fun b s' H' I' q => ?_) (m0 + 1) _ _ H2 (inv_gens I6 ?_ ?_ ?_) ?_ (goes _ ?_ ?_ ?_)
    · refine ⟨.bl b, H', I3.call' (ch := fp) I'.os I'.base I'.hok I'.bare fun b hb => ⟨(f3 b hb).1.2.2.2.1, (f3 b hb).1.2.1, (f3 b hb).1.2.2.2.2.1, (f3 b hb).1.2.2.2.2.2⟩, rfl, q⟩
    · rfl
    · rfl
    · exact I3.bare.push rfl
    · show (s4.gens.push (.fresh (.compStart _ 0 _ _ (genEnv scope (gcl X scope) s4.heap.objs.size code builtinsNs X.env))))[s2.gens.size]? = _
      rw [e4h, hce, ← e4g]
      exact Array.getElem?_push_size ..
    · rfl
    · rfl
    · exact bare_set (I3.bare.push rfl) rfl
  cases hf : codeAmong gpos ps.toList with
  | none =>
    refine wpAny_genexprCodeX hcode (cd.code hPs ht) (cd.tab hPs) hf fun c' h' tk hx hge hlt hco' _ htab' _ => ?_
    obtain ⟨o1, vs, f1, tf, fl, tg, inF, tx, tt, op, _, _, _, _, _, _, _, _, _, htr, _⟩ := hco'
    exact cont _ h' tk _ hx (Nat.le_trans hge (Nat.le_of_lt hlt)) htab'.2 ⟨_, rfl⟩ htr
  | some cv =>
    refine wpAny_genexprCode_hit hcode (cd.code hPs ht) hf ?_
    exact cont cv s2.heap s2.toks ps (Heap.ExtBut.refl _ _) (Nat.le_refl _) hPs ⟨#[], by simp⟩ ht

theorem pe_any {X : Cx} {c P : Addr} {elt tg iter : Expr} {p pos gpos : Pos} {scope : Scope} {own : List (Str × Nat)} {wi : TI} {g : TG} {te : TE} {k : Nat}
    (hr : Room (k + 1) X.A) (hc : X.calm = true) (hN : X.N.Nodup) (hg : Gl X "any") (hm : X.mg "any" = none) (TB : GxR.TabB X.base X.mg c P) (hcode : X.env.code = .ref c) (hi : PI X tg iter wi) (ok : BlkOk X.N X.env.scope scope own)
    (hcell : ∀ y ∈ scope.names, y.2 ≠ .cell) (hco : scope.isCoroutine = false) (h0 : scope.names.lookup (".0" : Str) = some NameKind.local)
    (hG : ∀ (s : Shared) (H : Hp) (C : Addr) (code : Value) (fp : List Addr) (A' : Around), Room k A' → PG (gcx X s H (genEnv scope (gcl X scope) C code builtinsNs X.env) fp A') tg g)
    (hE : ∀ (s : Shared) (H : Hp) (C : Addr) (code : Value) (fp : List Addr) (A' : Around), Room k A' → PE (gcx X s H (genEnv scope (gcl X scope) C code builtinsNs X.env) fp A') elt te)
    (hs : ∀ v, genFold iter X.env v = pure v)
    (he : starEach [.GeneratorExp elt [⟨tg, iter, [], 0⟩] scope gpos] X.env = (false, eval (.GeneratorExp elt [⟨tg, iter, [], 0⟩] scope gpos) X.env) :: starEach [] X.env := by rfl) :
    PE X (.Call (.Name "any" p) [.GeneratorExp elt [⟨tg, iter, [], 0⟩] scope gpos] [] pos) (tAG P wi g te (own.map (·.2)) true) := by
  refine ⟨fun pins s σ H Q I h => ?_⟩
  refine wpAny_Call_Name_kw (ld_blt I hg hm boot_any ?_)
  refine PyProof.Rows.callWith_builtin1 ?_ he (by rfl)
  rw [he]
  show wpAny _ _ (spliced ((false, eval (.GeneratorExp elt [⟨tg, iter, [], 0⟩] scope gpos) X.env) :: backTo pos (starEach [] X.env))) _ _ s
  have hfree : ∀ y ∈ scope.names, y.2 = .free → ∃ c, X.env.cells.lookup y.1 = some c := fun y hy e => by
    rcases ok.free y hy e with k | k
    · exact I.ok.has _ (.inl k)
    · exact I.ok.has _ (.inr k)
  refine Calls.spliced_cons (wpAny_GeneratorExp_make hco (closure_ok hfree) hcell h0 ok.kind (by have := hr.dp; omega) ?_ hs)
  refine thn (hi.run pins s σ H _ I h) fun xv s1 h1 => thn h1 fun itv s2 h2 => ?_
  obtain ⟨it, fp, tn, J, H1, rfl, I2, T, st2, f2, htab, q⟩ := h2
  refine ⟨I2.nolimit, ?_⟩
  obtain ⟨ps, hP, ht⟩ := htab
  have hPs : s2.heap.get? P = some { cls := .none, data := .fields ps } := I2.hok P _ hP
  have cd : PySem.W.CodeHd s2.heap c P := TB.code.keeps fun b u e => I2.bk b u e
  have cont : ∀ (code : Value) (h3 : Heap) (tk : Nat) (ps' : Array Value), Heap.ExtBut P s2.heap h3 → s2.heap.objs.size ≤ h3.objs.size → h3.get? P = some { cls := .none, data := .fields ps' } → (∃ more, ps' = ps ++ more) → TriplesOk ps'.toList →
      wpAny (model X.prog X.w) X.A (builtinsFor X.env.globals X.env.builtins) (fun bi s₄ => ∀ h', h'.Ns s₄.heap.objs.size (fun y => if y = ".0" then some (.ref it) else none) → Heap.SameBut s₄.heap.objs.size (s₄.heap.push { cls := .type "frame", data := .dict #[] }) h' →
        wpAny (model X.prog X.w) X.A (spliced (backTo pos (starEach [] X.env))) (fun vs s₁ => wpAny (model X.prog X.w) X.A (call (.builtin "any") (.ref h'.objs.size :: vs)) (EP X pins σ Q) X.xe s₁) X.xe { s₄ with
            gens := s₄.gens.push (.fresh (.compStart (.GeneratorExp elt [⟨tg, iter, [], 0⟩] scope gpos) 0 (.ref it) .none (genEnv scope (gcl X scope) s₄.heap.objs.size code bi X.env))),
            toks := s₄.toks + 1 + 1 + 1,
            heap := h'.push { cls := .type "generator", data := .fields #[.int s₄.gens.size 0, .str "<genexpr>" (s₄.toks + 1), .str (X.env.qual ++ "<genexpr>") (s₄.toks + 1 + 1)] } }) X.xe { s2 with heap := h3, toks := tk } := by
    intro code h3 tk ps' hx hsz hP3 hmore ht3
    obtain ⟨more, em⟩ := hmore
    obtain ⟨bm, ob, e1, e2, e3, e4, e5, e6, e7, e8⟩ := TB.bm
    refine wpAny_builtinsFor (m := X.mg) (by rw [I2.ok.glob]; exact (I2.mod.glob.keeps I2.bk).extBut hx TB.gP) e1 e2 (hx _ _ e4 (I2.bk _ _ e5)) e6 e7 e8 ?_
    -- the state ahead of the generator
    have I3 : Inv X pins σ (upd H1 P (.tbl ps')) { s2 with heap := h3, toks := tk } := by
      rw [em]
      exact GxR.inv_tab (g' := s2.gens) (d' := s2.drawn) I2 hP (fun b o hb e => hx b o hb e) (by rw [← em]; exact hP3) I2.bare
    have hT2 : GxR.Tabbed P H1 (upd H1 P (.tbl ps')) := ⟨⟨ps', upd_same, ht3⟩, fun b hb => upd_ne hb⟩
    obtain ⟨W, ⟨m0, w0⟩, Wk⟩ := q _ hT2
    have fpP : ∀ b ∈ fp, b ≠ P := fun b hb z => by
      have := (f2 b hb).1
      rw [z, hP] at this; cases this
    have st3 : tn 0 h3 := T.keep _ _ _ st2 fun b hb o e => hx b o (fpP b hb) e
    intro h' hn' hs'
    have hn' : h'.Ns h3.objs.size (fun y => if y = ".0" then some (.ref it) else none) := hn'
    have hs' : Heap.SameBut h3.objs.size (h3.push { cls := .type "frame", data := .dict #[] }) h' := hs'
    have hsz' : h'.objs.size = h3.objs.size + 1 := by rw [hs'.1, Heap.size_push]
    have keep' : ∀ b o, h3.get? b = some o → h'.get? b = some o := fun b o e => hs'.extBut b o (Nat.ne_of_lt (Heap.lt_size e)) (Heap.get?_push_of_some _ e)
    generalize hgo : ({ cls := .type "generator", data := .fields #[.int s2.gens.size 0, .str "<genexpr>" (tk + 1), .str (X.env.qual ++ "<genexpr>") (tk + 1 + 1)] } : Obj) = go
    generalize hs4 : ({ s2 with heap := h3, toks := tk } : Shared) = s4 at I3
    have e4h : s4.heap = h3 := by rw [← hs4]
    have e4o : s4.os = s2.os := by rw [← hs4]
    have e4g : s4.gens = s2.gens := by rw [← hs4]
    generalize hH2 : upd H1 P (.tbl ps') = H2 at I3 w0
    have n2 : ∀ b ∈ fp, H2 b = none := fun b hb => by rw [← hH2, upd_ne (fpP b hb)]; exact (f2 b hb).1
    have sz2 : ∀ b ∈ fp, b < s4.heap.objs.size := fun b hb => by
      obtain ⟨o, e, _⟩ := T.obj _ _ st3 b hb
      rw [e4h]; exact Heap.lt_size e
    have f3 : ∀ b ∈ fp, FpOk X pins H2 b ∧ b < s4.heap.objs.size := fun b hb => ⟨⟨n2 b hb, (f2 b hb).2⟩, sz2 b hb⟩
    generalize hce : genEnv scope (gcl X scope) h3.objs.size code builtinsNs X.env = cenv
    generalize hA : X.A.in1.in1.over (.compLoop (.GeneratorExp elt [⟨tg, iter, [], 0⟩] scope gpos) 0 (.ref it) .none cenv) [] = A'
    have hA1 : A'.handled = none := by rw [← hA]; exact hr.hd
    have hA2 : A'.frames = some (cenv :: X.stack) := by
      rw [← hA]
      show pushEnvs [cenv] X.A.frames = _
      rw [I2.ok.frames]; rfl
    have hA3 : Room k A' := by
      refine ⟨hA1, ?_, ?_⟩
      · have := hr.dp
        rw [← hA]
        show X.A.depth + 1 + 3 * k + 5 < recursionLimit
        omega
      · have := hr.un
        rw [← hA]
        show X.A.units + 1 + 1 + 3 + 16 * k + 200 < cLine
        omega
    have keep5 : ∀ b o, s4.heap.get? b = some o → (h'.push go).get? b = some o := fun b o e => Heap.get?_push_of_some _ (keep' b o (by rw [← e4h]; exact e))
    have gbare : AllBare (s2.gens.push (.fresh (.compStart (.GeneratorExp elt [⟨tg, iter, [], 0⟩] scope gpos) 0 (.ref it) .none cenv))) := I2.bare.push rfl
    have I5 : Inv (gcx X s4 H2 cenv fp A') [] (wipe σ (own.map (·.2))) H2 { s4 with heap := h'.push go, gens := s2.gens.push (.fresh (.compStart (.GeneratorExp elt [⟨tg, iter, [], 0⟩] scope gpos) 0 (.ref it) .none cenv)), toks := tk + 1 + 1 + 1 } := by
      have z := gen_start (code := code) (A' := A') (h' := h'.push go) (g' := s2.gens.push (.fresh (.compStart (.GeneratorExp elt [⟨tg, iter, [], 0⟩] scope gpos) 0 (.ref it) .none cenv))) (t' := tk + 1 + 1 + 1) (m := fun y => if y = ".0" then some (.ref it) else none) I3 ok hN f3 hcell hA1 (by rw [e4h, hce]; exact hA2) (by rw [e4h]; exact hn'.push _) keep5 gbare
      rw [e4h, hce] at z
      exact z
    have hclt : h'.objs.size ∉ frs X.stack := fun hb => by
      obtain ⟨_, o, ho, _⟩ := I3.stack.mem hb
      have z := Heap.lt_size ho
      rw [e4h] at z
      have z2 : (h'.objs.size : Nat) < h3.objs.size := z
      omega
    have hgf : go.isFreed = false := by rw [← hgo]; rfl
    have hgc : go.cls = .type "generator" ∧ go.data = .fields #[.int s2.gens.size 0, .str "<genexpr>" (tk + 1), .str (X.env.qual ++ "<genexpr>") (tk + 1 + 1)] ∧ go.slots = #[] := by rw [← hgo]; exact ⟨rfl, rfl, rfl⟩
    have hcl : cenv.locals = h3.objs.size := by rw [← hce]; rfl
    have hcs : cenv.scope = scope := by rw [← hce]; rfl
    have I6 := I5.pins_of (pins' := [(h'.objs.size, go)]) fun p hp => by
      rw [List.mem_singleton.mp hp]
      refine ⟨Heap.get?_push_size _ hgf, I3.hok.fresh (by rw [e4h]; omega), ?_, hclt, fun v z => ?_⟩
      · show h'.objs.size ≠ cenv.locals
        rw [hcl]; omega
      · have z : go.data = .cell v := z
        rw [hgc.2.1] at z; cases z
    have pg := hG s4 H2 h3.objs.size code fp A' hA3
    have pe := hE s4 H2 h3.objs.size code fp A' hA3
    rw [hce] at pg pe
    have st5 : tn 0 (h'.push go) := T.keep _ _ _ st3 fun b hb o e => Heap.get?_push_of_some _ (keep' b o e)
    have wl : ∀ σ : L2.St, (wipe σ (own.map (·.2))).length = σ.length := fun σ => wipe_length σ _
    have ww : wipe (wipe σ (own.map (·.2))) (own.map (·.2)) = wipe σ (own.map (·.2)) := wipe_wipe _ _
    have goes : ∀ s6 : Shared, s6.heap = h'.push go → s6.os = s4.os → AllBare s6.gens → GenState.Goes (model X.prog X.w) X.A.in1.in1 (fun n s₀ r s₁ => r = .ok .next ∧ Rp (gcx X s4 H2 cenv fp A') [(h'.objs.size, go)] (wipe σ (own.map (·.2))) true Q n s₀ s₁) (Yp (gcx X s4 H2 cenv fp A') [(h'.objs.size, go)] (wipe σ (own.map (·.2))) true Q) (m0 + 1)
        (.fresh (.compStart (.GeneratorExp elt [⟨tg, iter, [], 0⟩] scope gpos) 0 (.ref it) .none cenv)) (.send .none) s6 := fun s6 h1 h2 h3' =>
      ⟨rfl, seg_start (gX := gcx X s4 H2 cenv fp A') (Ag := X.A.in1.in1) hA.symm rfl rfl (by rw [hcs]; exact hco) T hc (fun b hb => ⟨(I5.ok.exf b hb).1, I5.ok.exfs b hb, hb, fun x c e => (I5.ok.exf b hb).2 x c e, fun p hp => by
          rw [List.mem_singleton.mp (show p ∈ [(h'.objs.size, go)] from hp)]
          have z1 := sz2 b hb
          rw [e4h] at z1
          have z2 : @LT.lt Nat _ b h3.objs.size := z1
          exact fun z => by
            have z : @Eq Nat h'.objs.size b := z
            rw [hsz'] at z
            rw [← z] at z2
            exact absurd z2 (Nat.not_lt.mpr (Nat.le_succ _))⟩) (by rw [wl]; exact I5.len ▸ (wl σ).symm ▸ rfl) ww wl pg pe Wk (m0 + 1) m0 s6 s6 H2 (Nat.lt_succ_self _) (inv_gens I6 h1 h2 h3') (by rw [h1]; exact st5) n2 w0⟩
    refine Calls.spliced_nil ?_
    refine call_function_tree F.kind_any F.plain_any F.entry_any (F.args_any1 _) ?_
    unfold Builtin.«any»
    refine wpAny_bind (m := oneArg "any" _) (wpAny_pure ?_)
    refine wpAny_bind (wpAny_pyIter_gen (g := s2.gens.size) ⟨go, _, _, Heap.get?_push_size _ hgf, hgc.1, hgc.2.1, hgc.2.2⟩ ?_)
    refine wpAny_pure ⟨plainId_quiet F.plain_any_loop _, ?_⟩
    refine any_loop (gX := gcx X s4 H2 cenv fp A') (A := X.A) (a := h'.objs.size) (gn := s2.gens.size) (go := go) (σw := wipe σ (own.map (·.2))) (Q := Q) hr.hd (by have := hr.dp; omega) hgc (fun b s' H' I' q => ?_) (m0 + 1) _ _ H2 (inv_gens I6 ?_ ?_ ?_) ?_ (goes _ ?_ ?_ ?_)
    · refine ⟨.bl b, H', I3.call' (ch := fp) I'.os I'.base I'.hok I'.bare fun b hb => ⟨(f3 b hb).1.2.2.2.1, (f3 b hb).1.2.1, (f3 b hb).1.2.2.2.2.1, (f3 b hb).1.2.2.2.2.2⟩, rfl, q⟩
    · rfl
    · rfl
    · exact I3.bare.push rfl
    · show (s4.gens.push (.fresh (.compStart _ 0 _ _ (genEnv scope (gcl X scope) s4.heap.objs.size code builtinsNs X.env))))[s2.gens.size]? = _
      rw [e4h, hce, ← e4g]
      exact Array.getElem?_push_size ..
    · rfl
    · rfl
    · exact bare_set (I3.bare.push rfl) rfl
  cases hf : codeAmong gpos ps.toList with
  | none =>
    refine wpAny_genexprCodeX hcode (cd.code hPs ht) (cd.tab hPs) hf fun c' h' tk hx hge hlt hco' _ htab' _ => ?_
    obtain ⟨o1, vs, f1, tf, fl, tg, inF, tx, tt, op, _, _, _, _, _, _, _, _, _, htr, _⟩ := hco'
    exact cont _ h' tk _ hx (Nat.le_trans hge (Nat.le_of_lt hlt)) htab'.2 ⟨_, rfl⟩ htr
  | some cv =>
    refine wpAny_genexprCode_hit hcode (cd.code hPs ht) hf ?_
    exact cont cv s2.heap s2.toks ps (Heap.ExtBut.refl _ _) (Nat.le_refl _) hPs ⟨#[], by simp⟩ ht
end GX
end
-- part Z0
section
set_option Elab.async false
set_option linter.all false
set_option maxRecDepth 100000
set_option autoImplicit false
/-! # Z: a small functional reading of Python over HandS: data P, cells, results; each construct's rule gives a Lean function. -/
namespace Z
open PySem PySem.Spec PyProof.Rows L2

/-- pure data -/
inductive P where
  | non | bl (b : Bool) | int (i : Int) | str (x : Str)
  | tup (ps : List P) | lst (ps : List P) | dct (ks vs : List P) | obj (c : Str) (ns : List Str) (ps : List P) | scr (ns : List Int)
/-- a value: data, or a cell of the store -/
inductive W where
  | val (p : P) | loc (n : Nat)
inductive Cell where
  | lst (ws : List W) | ins (c : Str) (ns : List Str) (ws : List W) | frz (p : P)
abbrev Store := List Cell
abbrev Env := List (Option W)
structure Xn where
  cls : Str
  ns : List Str
  ps : List P
inductive RE (α : Type) where
  | ok (a : α) (S : Store) | ex (x : Xn) (S : Store) | bad
inductive R where
  | nx (ρ : Env) (S : Store) | rt (w : W) (S : Store) | bk (ρ : Env) (S : Store) | ct (ρ : Env) (S : Store) | ex (x : Xn) (ρ : Env) (S : Store) | bad
inductive Rp where
  | ok (p : P) | ex (x : Xn) | bad
abbrev FE (α : Type) := Env → Store → RE α
abbrev FS := Env → Store → R

/-- the classes' addresses; the tables of code objects -/
structure CTb where
  cls : Str → Addr
  tabs : List Addr
instance : CoeFun CTb fun _ => Str → Addr := ⟨CTb.cls⟩
/-! ### representation -/
def Ex (H H' : Hp) : Prop := ∀ a o, H a = some o → H' a = some o
theorem Ex.refl (H : Hp) : Ex H H := fun _ _ h => h
theorem Ex.trans {H H1 H2 : Hp} (a : Ex H H1) (b : Ex H1 H2) : Ex H H2 := fun x o h => b x o (a x o h)
theorem Ex.new {H : Hp} {p : Addr} {o : HO} (h : H p = none) : Ex H (upd H p o) := fun a u e => by
  rw [upd_ne (ne_of_none e h)]; exact e
theorem Ex.mut {H H' : Hp} {p : Addr} {o : HO} (e : Ex H H') (h : H p = none) : Ex H (upd H' p o) := fun a u ha => by
  rw [upd_ne (ne_of_none ha h)]; exact e a u ha
theorem Ex.both {H H' : Hp} {p : Addr} {o : HO} (e : Ex H H') (h : H' p = none) : Ex (upd H p o) (upd H' p o) := fun a u ha => by
  by_cases q : a = p
  · subst q; rw [upd_same] at ha ⊢; exact ha
  · rw [upd_ne q] at ha ⊢; exact e a u ha
theorem Ex.back {H H' : Hp} {p : Addr} (e : Ex H H') (h : H' p = none) : H p = none := by
  cases h1 : H p with
  | none => rfl
  | some o => rw [e p o h1] at h; cases h
theorem Ex.rd {H H' : Hp} {a : Addr} {u : HO} (e : Ex H H') (h : Rd H a u) : Rd H' a u := by
  rcases h with h | ⟨o, h⟩
  · exact .inl (e a _ h)
  · exact .inr ⟨o, e a _ h⟩
theorem Ex.sl {K : PySem.W.Frag} {H H' : Hp} {a : Addr} {xs : List V} (e : Ex H H') (h : SqL K H a xs) : SqL K H' a xs := by
  rcases h with h | h
  · exact .inl (e.rd h)
  · exact .inr h
theorem Ex.st {K : PySem.W.Frag} {H H' : Hp} {a : Addr} {xs : List V} (e : Ex H H') (h : SqT K H a xs) : SqT K H' a xs := by
  rcases h with h | h
  · exact .inl (e.rd h)
  · exact .inr h

section
variable (K : PySem.W.Frag) (CT : CTb) (F : Hp)
mutual
def RepP : P → V → Prop
  | .non, v => v = .non
  | .bl b, v => v = .bl b
  | .int i, v => v = .int i
  | .str x, v => v = .str x
  | .tup ps, v => ∃ a vs, v = .ref a ∧ SqT K F a vs ∧ RepL ps vs
  | .lst ps, v => ∃ a vs, v = .ref a ∧ F a = some (.lst vs) ∧ RepL ps vs
  | .scr ns, v => ∃ a, v = .ref a ∧ SqL K F a (ns.map V.int)
  | .dct _ _, _ => False
  | .obj c ns ps, v => ∃ a dx vs, v = .ref a ∧ F a = some (.ins (CT c) dx (ns.zip vs)) ∧ ns.length = ps.length ∧ RepL ps vs
def RepL : List P → List V → Prop
  | [], vs => vs = []
  | p :: ps, vs => ∃ v vs', vs = v :: vs' ∧ RepP p v ∧ RepL ps vs'
end
end
section
variable {K : PySem.W.Frag} {CT : CTb} {F F' : Hp}
mutual
theorem RepP.mono (e : Ex F F') : ∀ {p : P} {v : V}, RepP K CT F p v → RepP K CT F' p v
  | .non, _, h => h
  | .bl _, _, h => h
  | .int _, _, h => h
  | .str _, _, h => h
  | .tup ps, _, ⟨a, vs, h1, h2, h3⟩ => ⟨a, vs, h1, e.st h2, RepL.mono e h3⟩
  | .lst ps, _, ⟨a, vs, h1, h2, h3⟩ => ⟨a, vs, h1, e _ _ h2, RepL.mono e h3⟩
  | .scr ns, _, ⟨a, h1, h2⟩ => ⟨a, h1, e.sl h2⟩
  | .dct _ _, _, h => h.elim
  | .obj c ns ps, _, ⟨a, dx, vs, h1, h2, hl, h3⟩ => ⟨a, dx, vs, h1, e _ _ h2, hl, RepL.mono e h3⟩
theorem RepL.mono (e : Ex F F') : ∀ {ps : List P} {vs : List V}, RepL K CT F ps vs → RepL K CT F' ps vs
  | [], _, h => h
  | p :: ps, _, ⟨v, vs', h1, h2, h3⟩ => ⟨v, vs', h1, RepP.mono e h2, RepL.mono e h3⟩
end
theorem RepL.length : ∀ {ps : List P} {vs : List V}, RepL K CT F ps vs → vs.length = ps.length
  | [], _, h => by rw [show _ = _ from h]; rfl
  | p :: ps, _, ⟨v, vs', h1, h2, h3⟩ => by rw [h1, List.length_cons, List.length_cons, RepL.length h3]
theorem RepL.get : ∀ {ps : List P} {vs : List V} {i : Nat} {v : V}, RepL K CT F ps vs → vs[i]? = some v → ∃ p, ps[i]? = some p ∧ RepP K CT F p v
  | [], _, _, _, h, e => by rw [show _ = _ from h] at e; simp at e
  | p :: ps, _, 0, v, ⟨v', vs', h1, h2, h3⟩, e => by subst h1; simp at e; subst e; exact ⟨p, rfl, h2⟩
  | p :: ps, _, i + 1, v, ⟨v', vs', h1, h2, h3⟩, e => by subst h1; simp at e; simpa using RepL.get h3 e
theorem RepL.get' : ∀ {ps : List P} {vs : List V} {i : Nat} {p : P}, RepL K CT F ps vs → ps[i]? = some p → ∃ v, vs[i]? = some v ∧ RepP K CT F p v
  | [], _, _, _, h, e => by simp at e
  | p :: ps, _, 0, q, ⟨v', vs', h1, h2, h3⟩, e => by subst h1; simp at e; subst e; exact ⟨v', rfl, h2⟩
  | p :: ps, _, i + 1, q, ⟨v', vs', h1, h2, h3⟩, e => by subst h1; simp at e; simpa using RepL.get' h3 e
theorem RepL.append : ∀ {ps qs : List P} {vs us : List V}, RepL K CT F ps vs → RepL K CT F qs us → RepL K CT F (ps ++ qs) (vs ++ us)
  | [], _, _, _, h, q => by rw [show _ = _ from h]; exact q
  | p :: ps, _, _, _, ⟨v', vs', h1, h2, h3⟩, q => by subst h1; exact ⟨v', _, rfl, h2, RepL.append h3 q⟩
end

/-! ### the state -/
structure Fs where
  G : Hp
  F : Hp
  m : List Addr
structure Ext (s s' : Fs) : Prop where
  g : s.G = s'.G
  f : Ex s.F s'.F
  m : ∀ (n : Nat) (a : Addr), s.m[n]? = some a → s'.m[n]? = some a
  new : ∀ a, s.F a = none → s.G a ≠ none → s'.F a = none
theorem Ext.refl (s : Fs) : Ext s s := ⟨rfl, Ex.refl _, fun _ _ h => h, fun _ h _ => h⟩
theorem Ext.trans {s s1 s2 : Fs} (a : Ext s s1) (b : Ext s1 s2) : Ext s s2 :=
  ⟨a.g.trans b.g, a.f.trans b.f, fun n x h => b.m n x (a.m n x h), fun x h g => b.new x (a.new x h g) (by rw [← a.g]; exact g)⟩

section
variable (K : PySem.W.Frag) (CT : CTb)
def RepW (s : Fs) : W → V → Prop
  | .val p, v => RepP K CT s.F p v
  | .loc n, v => ∃ a, s.m[n]? = some a ∧ v = .ref a
def RepWs (s : Fs) : List W → List V → Prop
  | [], vs => vs = []
  | w :: ws, vs => ∃ v vs', vs = v :: vs' ∧ RepW K CT s w v ∧ RepWs s ws vs'
def CellOk (s : Fs) (H : Hp) (a : Addr) : Cell → Prop
  | .lst ws => s.F a = none ∧ s.G a = none ∧ ∃ vs, H a = some (.lst vs) ∧ RepWs K CT s ws vs
  | .ins c ns ws => s.F a = none ∧ s.G a = none ∧ ∃ dx vs, H a = some (.ins (CT c) dx (ns.zip vs)) ∧ ns.length = ws.length ∧ RepWs K CT s ws vs
  | .frz p => RepP K CT s.F p (.ref a)
end
def live : Cell → Prop
  | .frz _ => False
  | _ => True
structure Gd (K : PySem.W.Frag) (CT : CTb) (s : Fs) (S : Store) (H : Hp) : Prop where
  exF : Ex s.F H
  exG : Ex s.G H
  len : s.m.length = S.length
  cells : ∀ (n : Nat) (c : Cell) (a : Addr), S[n]? = some c → s.m[n]? = some a → CellOk K CT s H a c
  inj : ∀ (n n' : Nat) (c c' : Cell) (a : Addr), S[n]? = some c → S[n']? = some c' → live c → live c' → s.m[n]? = some a → s.m[n']? = some a → n = n'
  tab : ∀ P ∈ CT.tabs, GxR.TabG H P
  notF : ∀ P ∈ CT.tabs, s.F P = none
  notG : ∀ P ∈ CT.tabs, s.G P = none
theorem tab_ex {H H' : Hp} {P : Addr} (e : Ex H H') (h : GxR.TabG H P) : GxR.TabG H' P := let ⟨ps, h1, h2⟩ := h; ⟨ps, e _ _ h1, h2⟩
theorem tab_ne {H : Hp} {P : Addr} (h : GxR.TabG H P) : H P ≠ none := by obtain ⟨ps, h1, _⟩ := h; rw [h1]; simp
structure EnvOk (K : PySem.W.Frag) (CT : CTb) (s : Fs) (ρ : Env) (σ : L2.St) : Prop where
  len : ρ.length = σ.length
  get : ∀ (i : Nat) (w : W), ρ[i]? = some (some w) → ∃ v, σ[i]? = some (some v) ∧ RepW K CT s w v
def RepX (K : PySem.W.Frag) (CT : CTb) (F : Hp) (x : Xn) (c : Value) (dd : Option Addr) : Prop :=
  c = .ref (CT x.cls) ∧ ((x.ns = [] ∧ x.ps = [] ∧ dd = none) ∨ ∃ d vs, dd = some d ∧ F d = some (.xd (x.ns.zip vs)) ∧ x.ns.length = x.ps.length ∧ RepL K CT F x.ps vs)

section
variable {K : PySem.W.Frag} {CT : CTb} {s s' s1 : Fs} {S S' : Store} {H H' : Hp} {ρ : Env} {σ : L2.St}
theorem RepW.mono (e : Ext s s') {w : W} {v : V} (h : RepW K CT s w v) : RepW K CT s' w v := by
  cases w with
  | val p => exact RepP.mono e.f h
  | loc n => obtain ⟨a, h1, h2⟩ := h; exact ⟨a, e.m n a h1, h2⟩
theorem RepWs.mono (e : Ext s s') : ∀ {ws : List W} {vs : List V}, RepWs K CT s ws vs → RepWs K CT s' ws vs
  | [], _, h => h
  | w :: ws, _, ⟨v, vs', h1, h2, h3⟩ => ⟨v, vs', h1, h2.mono e, RepWs.mono e h3⟩
theorem RepWs.length : ∀ {ws : List W} {vs : List V}, RepWs K CT s ws vs → vs.length = ws.length
  | [], _, h => by rw [show _ = _ from h]; rfl
  | p :: ps, _, ⟨v, vs', h1, h2, h3⟩ => by rw [h1, List.length_cons, List.length_cons, RepWs.length h3]
theorem RepWs.append : ∀ {ps qs : List W} {vs us : List V}, RepWs K CT s ps vs → RepWs K CT s qs us → RepWs K CT s (ps ++ qs) (vs ++ us)
  | [], _, _, _, h, q => by rw [show _ = _ from h]; exact q
  | p :: ps, _, _, _, ⟨v', vs', h1, h2, h3⟩, q => by subst h1; exact ⟨v', _, rfl, h2, RepWs.append h3 q⟩
theorem RepWs.get' : ∀ {ps : List W} {vs : List V} {i : Nat} {p : W}, RepWs K CT s ps vs → ps[i]? = some p → ∃ v, vs[i]? = some v ∧ RepW K CT s p v
  | [], _, _, _, h, e => by simp at e
  | p :: ps, _, 0, q, ⟨v', vs', h1, h2, h3⟩, e => by subst h1; simp at e; subst e; exact ⟨v', rfl, h2⟩
  | p :: ps, _, i + 1, q, ⟨v', vs', h1, h2, h3⟩, e => by subst h1; simp at e; simpa using RepWs.get' h3 e
theorem EnvOk.mono (e : Ext s s') (h : EnvOk K CT s ρ σ) : EnvOk K CT s' ρ σ := ⟨h.len, fun i w q => let ⟨v, h1, h2⟩ := h.get i w q; ⟨v, h1, h2.mono e⟩⟩
theorem EnvOk.set (h : EnvOk K CT s ρ σ) {i : Nat} {w : W} {v : V} (r : RepW K CT s w v) : EnvOk K CT s (ρ.set i (some w)) (σ.set i (some v)) := by
  refine ⟨by rw [List.length_set, List.length_set, h.len], fun j u q => ?_⟩
  rw [List.getElem?_set] at q
  by_cases e : i = j
  · rw [if_pos e] at q
    by_cases l : i < ρ.length
    · rw [if_pos l] at q
      cases q
      exact ⟨v, by rw [List.getElem?_set, if_pos e, if_pos (by rw [← h.len]; exact l)], r⟩
    · rw [if_neg l] at q; cases q
  · rw [if_neg e] at q
    obtain ⟨x, h1, h2⟩ := h.get j u q
    exact ⟨x, by rw [List.getElem?_set, if_neg e]; exact h1, h2⟩
theorem EnvOk.unset (h : EnvOk K CT s ρ σ) {i : Nat} (x : Option V) : EnvOk K CT s (ρ.set i none) (σ.set i x) := by
  refine ⟨by rw [List.length_set, List.length_set, h.len], fun j u q => ?_⟩
  rw [List.getElem?_set] at q
  by_cases e : i = j
  · rw [if_pos e] at q
    by_cases l : i < ρ.length
    · rw [if_pos l] at q; cases q
    · rw [if_neg l] at q; cases q
  · rw [if_neg e] at q
    obtain ⟨x, h1, h2⟩ := h.get j u q
    exact ⟨x, by rw [List.getElem?_set, if_neg e]; exact h1, h2⟩

/-- frozen things grow, the store and its cells as they are -/
theorem Gd.grow (g : Gd K CT s S H) {F' H' : Hp} (eF : Ex s.F F') (eH : Ex H H') (eFH : Ex F' H') (new : ∀ a, s.F a = none → H a ≠ none → F' a = none) :
    Gd K CT { s with F := F' } S H' ∧ Ext s { s with F := F' } := by
  have x : Ext s { s with F := F' } := ⟨rfl, eF, fun _ _ h => h, fun a h hg => new a h (by
    cases q : s.G a with
    | none => exact absurd q hg
    | some o => rw [g.exG a o q]; simp)⟩
  refine ⟨⟨eFH, g.exG.trans eH, g.len, fun n c a h1 h2 => ?_, g.inj, fun P hP => tab_ex eH (g.tab P hP), fun P hP => new P (g.notF P hP) (tab_ne (g.tab P hP)), g.notG⟩, x⟩
  have q := g.cells n c a h1 h2
  cases c with
  | lst ws =>
    obtain ⟨q1, q2, vs, q3, q4⟩ := q
    exact ⟨new a q1 (by rw [q3]; simp), q2, vs, eH _ _ q3, q4.mono x⟩
  | ins c ns ws =>
    obtain ⟨q1, q2, dx, vs, q3, ql, q4⟩ := q
    exact ⟨new a q1 (by rw [q3]; simp), q2, dx, vs, eH _ _ q3, ql, q4.mono x⟩
  | frz p => exact RepP.mono eF q
theorem Gd.newF (g : Gd K CT s S H) {p : Addr} (hp : H p = none) (o : HO) : Gd K CT { s with F := upd s.F p o } S (upd H p o) ∧ Ext s { s with F := upd s.F p o } :=
  g.grow (Ex.new (g.exF.back hp)) (Ex.new hp) (Ex.both g.exF hp) (fun a h1 h2 => by
    rw [upd_ne (fun e => h2 (by rw [e]; exact hp))]; exact h1)
theorem get_snoc {α : Type} {l : List α} {x y : α} {n : Nat} (h : (l ++ [x])[n]? = some y) : l[n]? = some y ∨ (n = l.length ∧ y = x) := by
  rcases Nat.lt_trichotomy n l.length with c | c | c
  · rw [List.getElem?_append_left c] at h; exact .inl h
  · subst c; simp at h; exact .inr ⟨rfl, h.symm⟩
  · rw [List.getElem?_append_right (Nat.le_of_lt c)] at h
    have : n - l.length ≠ 0 := by omega
    obtain ⟨k, hk⟩ := Nat.exists_eq_succ_of_ne_zero this
    rw [hk] at h; simp at h
theorem snoc_ext {l : List Addr} {p : Addr} : ∀ (n : Nat) (a : Addr), l[n]? = some a → (l ++ [p])[n]? = some a := fun n a h => by
  have := (List.getElem?_eq_some_iff.mp h).1
  rw [List.getElem?_append_left this]; exact h
/-- a new cell -/
theorem Gd.newC (g : Gd K CT s S H) {p : Addr} (hp : H p = none) {o : HO} {c : Cell} (H' : Hp) (hH : Ex H H') (hH' : H' p = some o)
    (hc : ∀ s' : Fs, Ext s s' → s'.F p = none → s'.G p = none → CellOk K CT s' H' p c) :
    Gd K CT { s with m := s.m ++ [p] } (S ++ [c]) H' ∧ Ext s { s with m := s.m ++ [p] } ∧ (s.m ++ [p])[S.length]? = some p := by
  have x : Ext s { s with m := s.m ++ [p] } := ⟨rfl, Ex.refl _, snoc_ext, fun _ h _ => h⟩
  have old : ∀ (n : Nat) (c : Cell) (a : Addr), S[n]? = some c → s.m[n]? = some a → live c → a ≠ p := fun n c a h1 h2 hl => by
    have q := g.cells n c a h1 h2
    cases c with
    | lst ws => obtain ⟨q1, q2, vs, q3, q4⟩ := q; exact ne_of_none q3 hp
    | ins c ns ws => obtain ⟨q1, q2, dx, vs, q3, ql, q4⟩ := q; exact ne_of_none q3 hp
    | frz p => exact hl.elim
  have key : ∀ (n : Nat) (c' : Cell) (a : Addr), (S ++ [c])[n]? = some c' → (s.m ++ [p])[n]? = some a → (S[n]? = some c' ∧ s.m[n]? = some a) ∨ (n = S.length ∧ c' = c ∧ a = p) := fun n c' a h1 h2 => by
    rcases get_snoc h1 with q | ⟨q, q'⟩
    · rcases get_snoc h2 with r | ⟨r, r'⟩
      · exact .inl ⟨q, r⟩
      · have := (List.getElem?_eq_some_iff.mp q).1
        rw [g.len] at r; omega
    · rcases get_snoc h2 with r | ⟨r, r'⟩
      · have := (List.getElem?_eq_some_iff.mp r).1
        rw [g.len] at this; omega
      · exact .inr ⟨q, q', r'⟩
  refine ⟨⟨g.exF.trans hH, g.exG.trans hH, by simp [g.len], fun n c' a h1 h2 => ?_, fun n n' c1 c2 a h1 h2 l1 l2 e1 e2 => ?_, fun P hP => tab_ex hH (g.tab P hP), g.notF, g.notG⟩, x, by rw [← g.len]; simp⟩
  · rcases key n c' a h1 h2 with ⟨q, r⟩ | ⟨q, rfl, rfl⟩
    · have q := g.cells n c' a q r
      cases c' with
      | lst ws => obtain ⟨q1, q2, vs, q3, q4⟩ := q; exact ⟨q1, q2, vs, hH _ _ q3, q4.mono x⟩
      | ins c ns ws => obtain ⟨q1, q2, dx, vs, q3, ql, q4⟩ := q; exact ⟨q1, q2, dx, vs, hH _ _ q3, ql, q4.mono x⟩
      | frz p => exact q
    · exact hc _ x (g.exF.back hp) (g.exG.back hp)
  · rcases key n c1 a h1 e1 with ⟨q, r⟩ | ⟨q, rfl, rfl⟩
    · rcases key n' c2 a h2 e2 with ⟨q', r'⟩ | ⟨q', rfl, rfl⟩
      · exact g.inj n n' c1 c2 a q q' l1 l2 r r'
      · exact absurd rfl (old n c1 _ q r l1)
    · rcases key n' c2 _ h2 e2 with ⟨q', r'⟩ | ⟨q', rfl, _⟩
      · exact absurd rfl (old n' c2 _ q' r' l2)
      · rw [q, q']
/-- a live cell changes -/
theorem Gd.setC (g : Gd K CT s S H) {n : Nat} {a : Addr} {c c' : Cell} {o' : HO} (h1 : S[n]? = some c) (hl : live c) (h2 : s.m[n]? = some a)
    (hF : s.F a = none) (hG : s.G a = none) (hH : H a ≠ none) (hc : CellOk K CT s (upd H a o') a c') : Gd K CT s (S.set n c') (upd H a o') := by
  have oth : ∀ (n' : Nat) (c' : Cell) (a' : Addr), S[n']? = some c' → s.m[n']? = some a' → live c' → n ≠ n' → a' ≠ a := fun n' c' a' q1 q2 l ne e => by
    subst e; exact ne (g.inj n n' c c' a' h1 q1 hl l h2 q2)
  have nlt := (List.getElem?_eq_some_iff.mp h1).1
  have hna : ∀ P ∈ CT.tabs, P ≠ a := fun P hP z => by
    have q := g.cells n c a h1 h2
    obtain ⟨ps, hp, _⟩ := g.tab P hP
    rw [z] at hp
    cases c with
    | lst ws => obtain ⟨_, _, vs, q3, _⟩ := q; rw [q3] at hp; cases hp
    | ins c ns ws => obtain ⟨_, _, dx, vs, q3, _, _⟩ := q; rw [q3] at hp; cases hp
    | frz p => exact hl.elim
  refine ⟨Ex.mut g.exF hF, Ex.mut g.exG hG, by rw [List.length_set]; exact g.len, fun n' d b q1 q2 => ?_, fun n1 n2 d1 d2 b q1 q2 l1 l2 e1 e2 => ?_, fun P hP => by
    obtain ⟨ps, h1, h2⟩ := g.tab P hP
    exact ⟨ps, by rw [upd_ne (hna P hP)]; exact h1, h2⟩, g.notF, g.notG⟩
  · rw [List.getElem?_set] at q1
    by_cases e : n = n'
    · subst e
      rw [if_pos rfl, if_pos nlt] at q1
      cases q1
      rw [h2] at q2; cases q2
      exact hc
    · rw [if_neg e] at q1
      have q := g.cells n' d b q1 q2
      cases d with
      | lst ws => obtain ⟨r1, r2, vs, r3, r4⟩ := q; exact ⟨r1, r2, vs, by rw [upd_ne (oth n' _ b q1 q2 trivial e)]; exact r3, r4⟩
      | ins c ns ws => obtain ⟨r1, r2, dx, vs, r3, ql, r4⟩ := q; exact ⟨r1, r2, dx, vs, by rw [upd_ne (oth n' _ b q1 q2 trivial e)]; exact r3, ql, r4⟩
      | frz p => exact q
  · have back : ∀ (k : Nat) (d : Cell), (S.set n c')[k]? = some d → live d → ∃ d', S[k]? = some d' ∧ live d' := fun k d q l => by
      rw [List.getElem?_set] at q
      by_cases e : n = k
      · subst e; exact ⟨c, h1, hl⟩
      · rw [if_neg e] at q; exact ⟨d, q, l⟩
    obtain ⟨d1', r1, l1'⟩ := back n1 d1 q1 l1
    obtain ⟨d2', r2, l2'⟩ := back n2 d2 q2 l2
    exact g.inj n1 n2 d1' d2' b r1 r2 l1' l2' e1 e2
theorem Gd.addr (g : Gd K CT s S H) {n : Nat} {c : Cell} (h : S[n]? = some c) : ∃ a, s.m[n]? = some a := by
  have := (List.getElem?_eq_some_iff.mp h).1
  rw [← g.len] at this
  exact ⟨_, List.getElem?_eq_getElem this⟩
end
end Z
end
-- part Z1
section
set_option Elab.async false
set_option linter.all false
set_option maxRecDepth 100000
set_option autoImplicit false
namespace Z
open PySem PySem.Spec PyProof.Rows L2

def RE.bind {α β : Type} (r : RE α) (k : α → Store → RE β) : RE β := match r with
  | .ok a S => k a S
  | .ex x S => .ex x S
  | .bad => .bad
def RG {α β : Type} (K : PySem.W.Frag) (CT : CTb) (Rel : Fs → α → β → Prop) (s : Fs) (r : RE α) (Q : β → Hp → Prop) (EX : Value → Option Addr → Hp → Prop) : Prop :=
  match r with
  | .ok a S' => ∀ s' H' b, Ext s s' → Gd K CT s' S' H' → Rel s' a b → Q b H'
  | .ex x S' => ∀ s' H' c dd, Ext s s' → Gd K CT s' S' H' → RepX K CT s'.F x c dd → EX c dd H'
  | .bad => False
section
variable {K : PySem.W.Frag} {CT : CTb} {s s' : Fs} {α β γ δ : Type} {Ra : Fs → α → γ → Prop} {Rb : Fs → β → δ → Prop} {EX : Value → Option Addr → Hp → Prop}
theorem RG.ext {r : RE α} {Q : γ → Hp → Prop} (e : Ext s s') (h : RG K CT Ra s r Q EX) : RG K CT Ra s' r Q EX := by
  cases r with
  | ok a S => exact fun s2 H2 b x g q => h s2 H2 b (e.trans x) g q
  | ex x S => exact fun s2 H2 c dd x g q => h s2 H2 c dd (e.trans x) g q
  | bad => exact h
theorem RG.step {r : RE α} {k : α → Store → RE β} {Q : δ → Hp → Prop} {Q1 : γ → Hp → Prop} (h : RG K CT Rb s (r.bind k) Q EX)
    (hk : ∀ a S1 s1 H1 b, Ext s s1 → Gd K CT s1 S1 H1 → Ra s1 a b → RG K CT Rb s1 (k a S1) Q EX → Q1 b H1) : RG K CT Ra s r Q1 EX := by
  cases r with
  | ok a S => exact fun s2 H2 b x g q => hk a S s2 H2 b x g q (RG.ext x h)
  | ex x S => exact h
  | bad => exact h
theorem RG.here {a : α} {S : Store} {H : Hp} {b : γ} {Q : γ → Hp → Prop} (h : RG K CT Ra s (.ok a S) Q EX) (g : Gd K CT s S H) (r : Ra s a b) : Q b H := h s H b (Ext.refl s) g r
theorem RG.imp {r : RE α} {Q Q1 : γ → Hp → Prop} (h : RG K CT Ra s r Q EX) (q : ∀ b H, Q b H → Q1 b H) : RG K CT Ra s r Q1 EX := by
  cases r with
  | ok a S => exact fun s2 H2 b x g r => q _ _ (h s2 H2 b x g r)
  | ex x S => exact h
  | bad => exact h
end

section
variable (K : PySem.W.Frag) (CT : CTb) (U : WX)
def canE (f : FE W) : TE := fun σ H Q => ∃ s S ρ, Gd K CT s S H ∧ EnvOk K CT s ρ σ ∧ RG K CT (RepW K CT) s (f ρ S) Q (fun c d H' => U c d σ H')
def canT (f : FE Bool) : TT := fun σ H Q => ∃ s S ρ, Gd K CT s S H ∧ EnvOk K CT s ρ σ ∧ RG K CT (fun _ a b => a = b) s (f ρ S) Q (fun c d H' => U c d σ H')
def canA (f : FE (List W)) : TA := fun σ H Q => ∃ s S ρ, Gd K CT s S H ∧ EnvOk K CT s ρ σ ∧ RG K CT (RepWs K CT) s (f ρ S) Q (fun c d H' => U c d σ H')
end
abbrev PZ (X : Cx) (CT : CTb) (U : WX) (e : Expr) (f : FE W) : Prop := PE X e (canE X.K CT U f)
abbrev PZT (X : Cx) (CT : CTb) (U : WX) (e : Expr) (f : FE Bool) : Prop := PT X e (canT X.K CT U f)
abbrev PZA (X : Cx) (CT : CTb) (U : WX) (es : List Expr) (f : FE (List W)) : Prop := PA X es (canA X.K CT U f)
theorem weakE {X : Cx} {e : Expr} {t t' : TE} (h : PE X e t) (w : ∀ σ H Q, t' σ H Q → t σ H Q) : PE X e t' := ⟨fun pins s σ H Q I q => h.run pins s σ H Q I (w σ H Q q)⟩
theorem weakT {X : Cx} {e : Expr} {t t' : TT} (h : PT X e t) (w : ∀ σ H Q, t' σ H Q → t σ H Q) : PT X e t' := ⟨fun pins s σ H Q I q => h.run pins s σ H Q I (w σ H Q q)⟩
theorem weakW {X : Cx} {e : Expr} {t t' : TT} (h : PW X e t) (w : ∀ σ H Q, t' σ H Q → t σ H Q) : PW X e t' := ⟨fun wh pins s σ H Q I q => h.run wh pins s σ H Q I (w σ H Q q)⟩
theorem weakA {X : Cx} {e : List Expr} {t t' : TA} (h : PA X e t) (w : ∀ σ H Q, t' σ H Q → t σ H Q) : PA X e t' := ⟨fun pos pins s σ H Q I q => h.run pos pins s σ H Q I (w σ H Q q)⟩

/-! ### atoms -/
def eVar (i : Nat) : FE W := fun ρ S => match ρ[i]? with
  | some (some w) => .ok w S
  | _ => .bad
def eCst (p : P) : FE W := fun _ S => .ok (.val p) S
section
variable {X : Cx} {CT : CTb} {U : WX}
theorem pz_var (i : Nat) {x : Str} {pos : Pos} (hN : X.N[i]? = some x := by rfl) (hv : Vis X.env.scope x := by first | exact Or.inl rfl | exact Or.inr (Or.inl rfl) | exact Or.inr (Or.inr rfl)) (hd : (x == ("__debug__" : Str)) = false := by decide)
    (hcd : (x == ("__classdict__" : Str)) = false := by decide) : PZ X CT U (.Name x pos) (eVar i) := weakE (pe_var hN hv hd hcd) fun σ H Q ⟨s, S, ρ, g, en, h⟩ => by
  unfold eVar at h
  cases e : ρ[i]? with
  | none => rw [e] at h; exact h.elim
  | some o =>
    cases o with
    | none => rw [e] at h; exact h.elim
    | some w =>
      rw [e] at h
      obtain ⟨v, h1, h2⟩ := en.get i w e
      exact ⟨v, h1, RG.here h g h2⟩
theorem pz_int {i : Int} {j : Nat} {pos : Pos} : PZ X CT U (.Constant (.int i) j pos) (eCst (.int i)) := weakE pe_int fun σ H Q ⟨s, S, ρ, g, en, h⟩ => RG.here h g rfl
theorem pz_bl {i : Bool} {j : Nat} {pos : Pos} : PZ X CT U (.Constant (.bool i) j pos) (eCst (.bl i)) := weakE pe_bl fun σ H Q ⟨s, S, ρ, g, en, h⟩ => RG.here h g rfl
theorem pz_non {j : Nat} {pos : Pos} : PZ X CT U (.Constant .none j pos) (eCst .non) := weakE pe_non fun σ H Q ⟨s, S, ρ, g, en, h⟩ => RG.here h g rfl
theorem pz_str {i : Str} {j : Nat} {pos : Pos} : PZ X CT U (.Constant (.str i) j pos) (eCst (.str i)) := weakE pe_str fun σ H Q ⟨s, S, ρ, g, en, h⟩ => RG.here h g rfl
/-- a constant of the module -/
def H0 : Hp := fun _ => none
theorem Ex.h0 (H : Hp) : Ex H0 H := fun _ _ h => by cases h
structure GloOk (K : PySem.W.Frag) (CT : CTb) (mg : Str → Option Value) (x : Str) (p : P) : Prop where
  ok : ∃ u v, mg x = some u ∧ RelV v u ∧ RepP K CT H0 p v
theorem pz_glob {x : Str} {pos : Pos} {p : P} (hg : Gl X x) (h : GloOk X.K CT X.mg x p) (hd : (x == ("__debug__" : Str)) = false := by decide) : PZ X CT U (.Name x pos) (eCst p) := by
  obtain ⟨u, v, h1, h2, h3⟩ := h
  exact weakE (pe_glob hg h1 h2 hd) fun σ H Q ⟨s, S, ρ, g, en, h⟩ => RG.here h g (RepP.mono (Ex.h0 _) h3)
end

/-! ### arguments -/
def aNil : FE (List W) := fun _ S => .ok [] S
def aCons (f : FE W) (r : FE (List W)) : FE (List W) := fun ρ S => (f ρ S).bind fun w S1 => (r ρ S1).bind fun ws S2 => .ok (w :: ws) S2
section
variable {X : Cx} {CT : CTb} {U : WX}
theorem za_nil : PZA X CT U [] aNil := weakA pa_nil fun σ H Q ⟨s, S, ρ, g, en, h⟩ => RG.here h g rfl
theorem za_cons {e : Expr} {es : List Expr} {f : FE W} {r : FE (List W)} (ha : PZ X CT U e f) (hr : PZA X CT U es r) (hs : starEach (e :: es) X.env = (false, eval e X.env) :: starEach es X.env := by rfl) : PZA X CT U (e :: es) (aCons f r) :=
  weakA (pa_cons ha hr hs) fun σ H Q ⟨s, S, ρ, g, en, h⟩ => by
    refine ⟨s, S, ρ, g, en, RG.step h fun w S1 s1 H1 v x1 g1 r1 h1 => ?_⟩
    refine ⟨s1, S1, ρ, g1, en.mono x1, RG.step h1 fun ws S2 s2 H2 vs x2 g2 r2 h2 => ?_⟩
    exact RG.here h2 g2 ⟨v, vs, rfl, r1.mono x2, r2⟩
end

/-! ### operators -/
abbrev O2 := W → W → Store → RE W
def eBin (op : O2) (fa fb : FE W) : FE W := fun ρ S => (fa ρ S).bind fun a S1 => (fb ρ S1).bind fun b S2 => op a b S2
def eUn (op : W → Store → RE W) (fa : FE W) : FE W := fun ρ S => (fa ρ S).bind fun a S1 => op a S1
/-- an operator's reading is served -/
def OpZ (K : PySem.W.Frag) (CT : CTb) (r : R2) (op : O2) : Prop := ∀ (s : Fs) (S : Store) (H : Hp) (a b : W) (x y : V) (Q : VK) (EX : Value → Option Addr → Hp → Prop),
  Gd K CT s S H → RepW K CT s a x → RepW K CT s b y → RG K CT (RepW K CT) s (op a b S) Q EX → r x y H Q
def UnZ (K : PySem.W.Frag) (CT : CTb) (r : V → Hp → VK → Prop) (op : W → Store → RE W) : Prop := ∀ (s : Fs) (S : Store) (H : Hp) (a : W) (x : V) (Q : VK) (EX : Value → Option Addr → Hp → Prop),
  Gd K CT s S H → RepW K CT s a x → RG K CT (RepW K CT) s (op a S) Q EX → r x H Q
section
variable {X : Cx} {CT : CTb} {U : WX} {a b c : Expr} {fa fb fc : FE W} {r r' : R2} {g g' : O2} {pos : Pos}
theorem bin_can (hz : OpZ X.K CT r g) {σ : L2.St} {H : Hp} {Q : VK} (h : canE X.K CT U (eBin g fa fb) σ H Q) : tOp r (canE X.K CT U fa) (canE X.K CT U fb) σ H Q := by
  obtain ⟨s, S, ρ, gd, en, h⟩ := h
  refine ⟨s, S, ρ, gd, en, RG.step h fun w S1 s1 H1 v x1 g1 r1 h1 => ?_⟩
  refine ⟨s1, S1, ρ, g1, en.mono x1, RG.step h1 fun ws S2 s2 H2 vs x2 g2 r2 h2 => ?_⟩
  exact hz s2 S2 H2 w ws v vs Q _ g2 (r1.mono x2) r2 h2
theorem pz_bin {op : Operator} (ho : OpR X (binaryOp op) r) (hz : OpZ X.K CT r g) (ha : PZ X CT U a fa) (hb : PZ X CT U b fb) : PZ X CT U (.BinOp a op b pos) (eBin g fa fb) :=
  weakE (pe_op ho ha hb) fun σ H Q h => bin_can hz h
theorem pz_cmp {op : CmpOp} (ho : OpR X (compareOp op) r) (hz : OpZ X.K CT r g) (ha : PZ X CT U a fa) (hb : PZ X CT U b fb) (hm : behindInMarks op b = false) : PZ X CT U (.Compare a [op] [b] pos) (eBin g fa fb) :=
  weakE (pe_cmpR ho ha hb hm) fun σ H Q h => bin_can hz h
theorem pz_un {op : UnaryOp} {ru : V → Hp → VK → Prop} {gu : W → Store → RE W} (ho : UnR X (unaryOp op) ru) (hz : UnZ X.K CT ru gu) (ha : PZ X CT U a fa) : PZ X CT U (.UnaryOp op a pos) (eUn gu fa) :=
  weakE (pe_un ho ha) fun σ H Q ⟨s, S, ρ, gd, en, h⟩ => ⟨s, S, ρ, gd, en, RG.step h fun w S1 s1 H1 v x1 g1 r1 h1 => hz s1 S1 H1 w v Q _ g1 r1 h1⟩

/-! ### tests -/
def asB : W → Store → RE Bool
  | .val (.bl b), S => .ok b S
  | _, _ => .bad
def tstB (f : FE W) : FE Bool := fun ρ S => (f ρ S).bind asB
theorem asB_ok {K : PySem.W.Frag} {s : Fs} {S : Store} {H : Hp} {w : W} {v : V} {Q : Bool → Hp → Prop} {EX : Value → Option Addr → Hp → Prop} (gd : Gd K CT s S H) (r : RepW K CT s w v) (h : RG K CT (fun _ a b => a = b) s (asB w S) Q EX) :
    ∃ k, v = .bl k ∧ Q k H := by
  cases w with
  | loc n => exact h.elim
  | val p =>
    cases p with
    | bl b => exact ⟨b, r, RG.here h gd rfl⟩
    | _ => exact h.elim
theorem tst_can {σ : L2.St} {H : Hp} {Q : Bool → Hp → Prop} (h : canT X.K CT U (tstB fa) σ H Q) : tTest (canE X.K CT U fa) σ H Q := by
  obtain ⟨s, S, ρ, gd, en, h⟩ := h
  exact ⟨s, S, ρ, gd, en, RG.step h fun w S1 s1 H1 v x1 g1 r1 h1 => asB_ok g1 r1 h1⟩
theorem zt_val (ha : PZ X CT U a fa) (he : ∀ whole, isTrue a X.env whole = (do let v ← whole; standAt a.pos; holding [v] (truthy v)) := by intro _; rfl) : PZT X CT U a (tstB fa) := weakT (pt_val ha he) fun σ H Q h => tst_can h
theorem zt_cmp {op : CmpOp} (ho : OpR X (compareOp op) r) (hz : OpZ X.K CT r g) (ha : PZ X CT U a fa) (hb : PZ X CT U b fb) (hm : behindInMarks op b = false) : PZT X CT U (.Compare a [op] [b] pos) (tstB (eBin g fa fb)) :=
  weakT (pt_cmpR ho ha hb hm) fun σ H Q h => by
    obtain ⟨s, S, ρ, gd, en, h⟩ := h
    exact bin_can hz ⟨s, S, ρ, gd, en, RG.step h fun w S1 s1 H1 v x1 g1 r1 h1 => asB_ok g1 r1 h1⟩
def tNotB (f : FE Bool) : FE Bool := fun ρ S => (f ρ S).bind fun b S1 => .ok (!b) S1
def tAndB (f u : FE Bool) : FE Bool := fun ρ S => (f ρ S).bind fun b S1 => if b = true then u ρ S1 else .ok false S1
def tOrB (f u : FE Bool) : FE Bool := fun ρ S => (f ρ S).bind fun b S1 => if b = true then .ok true S1 else u ρ S1
variable {ta tb : FE Bool} {rest : List Expr}
theorem zt_not (ha : PZT X CT U a ta) : PZT X CT U (.UnaryOp .Not a pos) (tNotB ta) := weakT (pt_not ha) fun σ H Q ⟨s, S, ρ, gd, en, h⟩ =>
  ⟨s, S, ρ, gd, en, RG.step h fun w S1 s1 H1 v x1 g1 r1 h1 => RG.here h1 g1 (by rw [r1])⟩
abbrev PZW (X : Cx) (CT : CTb) (U : WX) (e : Expr) (f : FE Bool) : Prop := PW X e (canT X.K CT U f)
theorem zw_and1 (ha : PZT X CT U a ta) : PZW X CT U (.BoolOp .And [a] pos) ta := pw_and1 ha
theorem zw_or1 (ha : PZT X CT U a ta) : PZW X CT U (.BoolOp .Or [a] pos) ta := pw_or1 ha
theorem zw_and (ha : PZT X CT U a ta) (hb : PZW X CT U (.BoolOp .And (b :: rest) pos) tb) : PZW X CT U (.BoolOp .And (a :: b :: rest) pos) (tAndB ta tb) := weakW (pw_and ha hb) fun σ H Q ⟨s, S, ρ, gd, en, h⟩ =>
  ⟨s, S, ρ, gd, en, RG.step h fun w S1 s1 H1 v x1 g1 r1 h1 => by
    subst r1
    cases w with
    | true => exact ⟨s1, S1, ρ, g1, en.mono x1, h1⟩
    | false => exact RG.here h1 g1 rfl⟩
theorem zw_or (ha : PZT X CT U a ta) (hb : PZW X CT U (.BoolOp .Or (b :: rest) pos) tb) : PZW X CT U (.BoolOp .Or (a :: b :: rest) pos) (tOrB ta tb) := weakW (pw_or ha hb) fun σ H Q ⟨s, S, ρ, gd, en, h⟩ =>
  ⟨s, S, ρ, gd, en, RG.step h fun w S1 s1 H1 v x1 g1 r1 h1 => by
    subst r1
    cases w with
    | false => exact ⟨s1, S1, ρ, g1, en.mono x1, h1⟩
    | true => exact RG.here h1 g1 rfl⟩
theorem zt_bool (h : PZW X CT U a ta) : PZT X CT U a ta := h.pt
/-- a chain of two comparisons -/
def eChain (g g' : O2) (fa fb fc : FE W) : FE W := fun ρ S => (fa ρ S).bind fun a S1 => (fb ρ S1).bind fun b S2 => (g a b S2).bind fun k S3 => (asB k S3).bind fun k S4 => if k = true then (fc ρ S4).bind fun c S5 => g' b c S5 else .ok (.val (.bl false)) S4
theorem chain_can (hz : OpZ X.K CT r g) (hz' : OpZ X.K CT r' g') {σ : L2.St} {H : Hp} {Q : VK} (h : canE X.K CT U (eChain g g' fa fb fc) σ H Q) : tChain r r' (canE X.K CT U fa) (canE X.K CT U fb) (canE X.K CT U fc) σ H Q := by
  obtain ⟨s, S, ρ, gd, en, h⟩ := h
  refine ⟨s, S, ρ, gd, en, RG.step h fun w S1 s1 H1 v x1 g1 r1 h1 => ?_⟩
  refine ⟨s1, S1, ρ, g1, en.mono x1, RG.step h1 fun ws S2 s2 H2 vs x2 g2 r2 h2 => ?_⟩
  refine hz s2 S2 H2 w ws v vs _ _ g2 (r1.mono x2) r2 (RG.step h2 fun kw S3 s3 H3 kv x3 g3 r3 h3 => ?_)
  obtain ⟨k, e, q⟩ := asB_ok (Q := fun k H => if k = true then canE X.K CT U fc σ H fun w' H4 => r' vs w' H4 Q else Q (.bl false) H) g3 r3 (RG.step h3 fun k S4 s4 H4 k' x4 g4 r4 h4 => by
    subst r4
    cases k with
    | false => exact RG.here h4 g4 rfl
    | true =>
      refine ⟨s4, S4, ρ, g4, (((en.mono x1).mono x2).mono x3).mono x4, RG.step h4 fun c S5 s5 H5 cv x5 g5 r5 h5 => ?_⟩
      exact hz' s5 S5 H5 ws c vs cv Q _ g5 (((r2.mono x3).mono x4).mono x5) r5 h5)
  exact ⟨k, e, q⟩
theorem pz_chain {op op' : CmpOp} (ho : OpR X (compareOp op) r) (hz : OpZ X.K CT r g) (ho' : OpR X (compareOp op') r') (hz' : OpZ X.K CT r' g') (ha : PZ X CT U a fa) (hb : PZ X CT U b fb) (hc : PZ X CT U c fc)
    (hm : lastMarks [op, op'] [b, c] = false := by with_unfolding_all rfl) : PZ X CT U (.Compare a [op, op'] [b, c] pos) (eChain g g' fa fb fc) :=
  weakE (pe_chain ho ho' ha hb hc hm) fun σ H Q h => chain_can hz hz' h
theorem zt_chain {op op' : CmpOp} (ho : OpR X (compareOp op) r) (hz : OpZ X.K CT r g) (ho' : OpR X (compareOp op') r') (hz' : OpZ X.K CT r' g') (ha : PZ X CT U a fa) (hb : PZ X CT U b fb) (hc : PZ X CT U c fc)
    (hm : lastMarks [op, op'] [b, c] = false := by with_unfolding_all rfl) : PZT X CT U (.Compare a [op, op'] [b, c] pos) (tstB (eChain g g' fa fb fc)) :=
  weakT (pt_chain ho ho' ha hb hc hm) fun σ H Q h => by
    obtain ⟨s, S, ρ, gd, en, h⟩ := h
    exact chain_can hz hz' ⟨s, S, ρ, gd, en, RG.step h fun w S1 s1 H1 v x1 g1 r1 h1 => asB_ok g1 r1 h1⟩
/-! ### and, or, not as values of bools; x if t else y -/
def eAnd (fa fb : FE W) : FE W := fun ρ S => (fa ρ S).bind fun a S1 => (asB a S1).bind fun k S2 => if k = true then fb ρ S2 else .ok (.val (.bl false)) S2
def eOr (fa fb : FE W) : FE W := fun ρ S => (fa ρ S).bind fun a S1 => (asB a S1).bind fun k S2 => if k = true then .ok (.val (.bl true)) S2 else fb ρ S2
def eNot (fa : FE W) : FE W := fun ρ S => (fa ρ S).bind fun a S1 => (asB a S1).bind fun k S2 => .ok (.val (.bl (!k))) S2
def eIf (t : FE Bool) (fa fb : FE W) : FE W := fun ρ S => (t ρ S).bind fun k S1 => if k = true then fa ρ S1 else fb ρ S1
theorem pz_one {op : BoolOp} (ha : PZ X CT U a fa) : PZ X CT U (.BoolOp op [a] pos) fa := pe_one ha
theorem pz_and (ha : PZ X CT U a fa) (hb : PZ X CT U (.BoolOp .And (b :: rest) pos) fb) : PZ X CT U (.BoolOp .And (a :: b :: rest) pos) (eAnd fa fb) := weakE (pe_and ha hb) fun σ H Q ⟨s, S, ρ, gd, en, h⟩ =>
  ⟨s, S, ρ, gd, en, RG.step h fun w S1 s1 H1 v x1 g1 r1 h1 => asB_ok (Q := fun c H => if c = true then canE X.K CT U fb σ H Q else Q (.bl false) H) g1 r1 (RG.step h1 fun k S2 s2 H2 k' x2 g2 r2 h2 => by
    subst r2
    cases k with
    | true => exact ⟨s2, S2, ρ, g2, (en.mono x1).mono x2, h2⟩
    | false => exact RG.here h2 g2 rfl)⟩
theorem pz_or (ha : PZ X CT U a fa) (hb : PZ X CT U (.BoolOp .Or (b :: rest) pos) fb) : PZ X CT U (.BoolOp .Or (a :: b :: rest) pos) (eOr fa fb) := weakE (pe_or ha hb) fun σ H Q ⟨s, S, ρ, gd, en, h⟩ =>
  ⟨s, S, ρ, gd, en, RG.step h fun w S1 s1 H1 v x1 g1 r1 h1 => asB_ok (Q := fun c H => if c = true then Q (.bl true) H else canE X.K CT U fb σ H Q) g1 r1 (RG.step h1 fun k S2 s2 H2 k' x2 g2 r2 h2 => by
    subst r2
    cases k with
    | false => exact ⟨s2, S2, ρ, g2, (en.mono x1).mono x2, h2⟩
    | true => exact RG.here h2 g2 rfl)⟩
theorem pz_not (ha : PZ X CT U a fa) : PZ X CT U (.UnaryOp .Not a pos) (eNot fa) := weakE (pe_not ha) fun σ H Q ⟨s, S, ρ, gd, en, h⟩ =>
  ⟨s, S, ρ, gd, en, RG.step h fun w S1 s1 H1 v x1 g1 r1 h1 => asB_ok (Q := fun c H => Q (.bl (!c)) H) g1 r1 (RG.step h1 fun k S2 s2 H2 k' x2 g2 r2 h2 => by
    subst r2
    exact RG.here h2 g2 rfl)⟩
theorem pz_if (ht : PZT X CT U c ta) (ha : PZ X CT U a fa) (hb : PZ X CT U b fb) : PZ X CT U (.IfExp c a b pos) (eIf ta fa fb) := weakE (pe_ifExp ht ha hb) fun σ H Q ⟨s, S, ρ, gd, en, h⟩ =>
  ⟨s, S, ρ, gd, en, RG.step h fun k S1 s1 H1 v x1 g1 r1 h1 => by
    subst r1
    cases k with
    | true => exact ⟨s1, S1, ρ, g1, en.mono x1, h1⟩
    | false => exact ⟨s1, S1, ρ, g1, en.mono x1, h1⟩⟩
end
end Z
end
-- part Z2
section
set_option Elab.async false
set_option linter.all false
set_option maxRecDepth 100000
set_option autoImplicit false
namespace Z
open PySem PySem.Spec PyProof.Rows L2

/-! ### looking through the store -/
def valAll : List W → Option (List P)
  | [] => some []
  | .val p :: ws => (valAll ws).map (p :: ·)
  | .loc _ :: _ => none
/-- a list (made by the program) as data -/
def lstP (S : Store) : W → Option (List P)
  | .val (.lst ps) => some ps
  | .loc n => match S[n]? with
    | some (.lst ws) => valAll ws
    | some (.frz (.lst ps)) => some ps
    | _ => none
  | _ => none
/-- data, a list's content included -/
def pOf (S : Store) : W → Option P
  | .val p => some p
  | .loc n => match S[n]? with
    | some (.lst ws) => (valAll ws).map .lst
    | some (.frz p) => some p
    | _ => none
section
variable {K : PySem.W.Frag} {CT : CTb} {s : Fs} {S : Store} {H : Hp}
theorem valAll_ok : ∀ {ws : List W} {ps : List P} {vs : List V}, valAll ws = some ps → RepWs K CT s ws vs → RepL K CT s.F ps vs
  | [], _, _, e, h => by cases e; exact h
  | .val p :: ws, _, _, e, ⟨v, vs', h1, h2, h3⟩ => by
    simp only [valAll, Option.map_eq_some_iff] at e
    obtain ⟨qs, e1, rfl⟩ := e
    exact ⟨v, vs', h1, h2, valAll_ok e1 h3⟩
  | .loc _ :: ws, _, _, e, h => by cases e
/-- data, at the heap as it is -/
def RepN (K : PySem.W.Frag) (CT : CTb) (s : Fs) (H : Hp) (p : P) (v : V) : Prop :=
  RepP K CT s.F p v ∨ ∃ ps a vs, p = .lst ps ∧ v = .ref a ∧ H a = some (.lst vs) ∧ RepL K CT s.F ps vs
theorem pOf_ok (g : Gd K CT s S H) {w : W} {v : V} {p : P} (r : RepW K CT s w v) (e : pOf S w = some p) : RepN K CT s H p v := by
  cases w with
  | val q => cases e; exact .inl r
  | loc n =>
    obtain ⟨a, h1, rfl⟩ := r
    unfold pOf at e
    cases hc : S[n]? with
    | none => simp [hc] at e
    | some c =>
      have q := g.cells n c a hc h1
      cases c with
      | lst ws =>
        simp only [hc, Option.map_eq_some_iff] at e
        obtain ⟨ps, e1, rfl⟩ := e
        obtain ⟨_, _, vs, q3, q4⟩ := q
        exact .inr ⟨ps, a, vs, rfl, rfl, q3, valAll_ok e1 q4⟩
      | ins c ns ws => simp [hc] at e
      | frz p' => simp only [hc] at e; cases e; exact .inl q
theorem RepN.lst (g : Gd K CT s S H) {ps : List P} {v : V} (r : RepN K CT s H (.lst ps) v) : ∃ a vs, v = .ref a ∧ H a = some (.lst vs) ∧ RepL K CT s.F ps vs := by
  rcases r with ⟨a, vs, h1, h2, h3⟩ | ⟨qs, a, vs, e, h1, h2, h3⟩
  · exact ⟨a, vs, h1, g.exF _ _ h2, h3⟩
  · cases e; exact ⟨a, vs, h1, h2, h3⟩
theorem RepN.non_lst {p : P} {v : V} (r : RepN K CT s H p v) (h : ∀ ps, p ≠ .lst ps) : RepP K CT s.F p v := by
  rcases r with r | ⟨ps, _, _, e, _⟩
  · exact r
  · exact absurd e (h ps)
end

/-! ### whole numbers -/
def iOp (C : Int → Int → Bool) (g : Int → Int → P) : O2
  | .val (.int i), .val (.int j), S => if C i j = true then .ok (.val (g i j)) S else .bad
  | _, _, _ => .bad
theorem ints_of {K : PySem.W.Frag} {CT : CTb} {C : Int → Int → Bool} {g : Int → Int → P} {a b : W} {S : Store} {s : Fs} {x y : V} {Q : VK} {EX : Value → Option Addr → Hp → Prop} (ra : RepW K CT s a x) (rb : RepW K CT s b y)
    (h : RG K CT (RepW K CT) s (iOp C g a b S) Q EX) : ∃ i j, x = .int i ∧ y = .int j ∧ C i j = true ∧ RG K CT (RepW K CT) s (.ok (.val (g i j)) S) Q EX := by
  unfold iOp at h
  split at h
  · rename_i i j
    by_cases c : C i j = true
    · rw [if_pos c] at h; exact ⟨i, j, ra, rb, c, h⟩
    · rw [if_neg c] at h; exact h.elim
  · exact h.elim
section
variable {K : PySem.W.Frag} {CT : CTb}
theorem oz_int {C : Int → Int → Prop} {C' : Int → Int → Bool} {g : Int → Int → V} {g' : Int → Int → P} (hC : ∀ i j, C' i j = true → C i j) (hg : ∀ i j F, RepP K CT F (g' i j) (g i j)) : OpZ K CT (rI C g) (iOp C' g') := fun s S H a b x y Q EX gd ra rb h => by
  obtain ⟨i, j, h1, h2, c, h⟩ := ints_of ra rb h
  exact ⟨i, j, h1, h2, hC i j c, RG.here h gd (hg i j _)⟩
theorem oz_int0 {g : Int → Int → V} {g' : Int → Int → P} (hg : ∀ i j F, RepP K CT F (g' i j) (g i j)) : OpZ K CT (rI0 g) (iOp (fun _ _ => true) g') := fun s S H a b x y Q EX gd ra rb h => by
  obtain ⟨i, j, h1, h2, c, h⟩ := ints_of ra rb h
  exact ⟨i, j, h1, h2, RG.here h gd (hg i j _)⟩
end
abbrev subW : O2 := iOp (fun _ _ => true) fun i j => .int (i - j)
abbrev fdivW : O2 := iOp (fun _ j => decide (0 < j) && decide (j < 2 ^ 64)) fun i j => .int (i / j)
abbrev modW : O2 := iOp (fun _ j => decide (0 < j)) fun i j => .int (i % j)
abbrev powW : O2 := iOp (fun i j => decide (0 ≤ j) && decide (j ≤ 1000000) && decide (i.natAbs < 2 ^ 64)) fun i j => .int (i ^ j.toNat)
abbrev shlW : O2 := iOp (fun i j => decide (0 ≤ j) && decide (j ≤ 1000000) && decide (i.natAbs < 2 ^ 64)) fun i j => .int (i * 2 ^ j.toNat)
abbrev shrW : O2 := iOp (fun _ j => decide (0 ≤ j)) fun i j => .int (i / 2 ^ j.toNat)
abbrev bandW : O2 := iOp (fun _ _ => true) fun i j => .int (Builtin.bitAnd i j)
abbrev ltW : O2 := iOp (fun _ _ => true) fun i j => .bl (decide (i < j))
abbrev leW : O2 := iOp (fun _ _ => true) fun i j => .bl (decide (i ≤ j))
abbrev gtW : O2 := iOp (fun _ _ => true) fun i j => .bl (decide (j < i))
abbrev geW : O2 := iOp (fun _ _ => true) fun i j => .bl (decide (j ≤ i))
def negW : W → Store → RE W
  | .val (.int i), S => .ok (.val (.int (-i))) S
  | _, _ => .bad
section
variable {X : Cx} {CT : CTb} {U : WX} {a b c : Expr} {fa fb fc : FE W} {pos : Pos}
theorem log2_64 {j : Int} (h : j.natAbs < 2 ^ 64) : j.natAbs.log2 < 9000 := Nat.lt_of_lt_of_le (PySem.Flt.log2_lt_of (by decide : 0 < 64) h) (by decide)
theorem pz_sub (ha : PZ X CT U a fa) (hb : PZ X CT U b fb) : PZ X CT U (.BinOp a .Sub b pos) (eBin subW fa fb) := pz_bin op_sub (oz_int0 fun _ _ _ => rfl) ha hb
theorem pz_fdiv (ha : PZ X CT U a fa) (hb : PZ X CT U b fb) : PZ X CT U (.BinOp a .FloorDiv b pos) (eBin fdivW fa fb) :=
  pz_bin op_fdivW (oz_int (fun i j h => by
    simp only [Bool.and_eq_true, decide_eq_true_eq] at h
    exact ⟨h.1, log2_64 (by omega)⟩) fun _ _ _ => rfl) ha hb
theorem pz_mod (ha : PZ X CT U a fa) (hb : PZ X CT U b fb) : PZ X CT U (.BinOp a .Mod b pos) (eBin modW fa fb) := pz_bin op_mod (oz_int (fun i j h => of_decide_eq_true h) fun _ _ _ => rfl) ha hb
theorem pz_pow (ha : PZ X CT U a fa) (hb : PZ X CT U b fb) : PZ X CT U (.BinOp a .Pow b pos) (eBin powW fa fb) :=
  pz_bin op_pow (oz_int (fun i j h => by simp only [Bool.and_eq_true, decide_eq_true_eq] at h; exact ⟨h.1.1, h.1.2, h.2⟩) fun _ _ _ => rfl) ha hb
theorem pz_shl (ha : PZ X CT U a fa) (hb : PZ X CT U b fb) : PZ X CT U (.BinOp a .LShift b pos) (eBin shlW fa fb) :=
  pz_bin op_shl (oz_int (fun i j h => by simp only [Bool.and_eq_true, decide_eq_true_eq] at h; exact ⟨h.1.1, h.1.2, h.2⟩) fun _ _ _ => rfl) ha hb
theorem pz_shr (ha : PZ X CT U a fa) (hb : PZ X CT U b fb) : PZ X CT U (.BinOp a .RShift b pos) (eBin shrW fa fb) := pz_bin op_shr (oz_int (fun i j h => of_decide_eq_true h) fun _ _ _ => rfl) ha hb
theorem pz_band (ha : PZ X CT U a fa) (hb : PZ X CT U b fb) : PZ X CT U (.BinOp a .BitAnd b pos) (eBin bandW fa fb) := pz_bin op_and (oz_int0 fun _ _ _ => rfl) ha hb
theorem oz_lt {K : PySem.W.Frag} : OpZ K CT (rI0 fun i j => .bl (decide (i < j))) ltW := oz_int0 fun _ _ _ => rfl
theorem oz_le {K : PySem.W.Frag} : OpZ K CT (rI0 fun i j => .bl (decide (i ≤ j))) leW := oz_int0 fun _ _ _ => rfl
theorem oz_gt {K : PySem.W.Frag} : OpZ K CT (rI0 fun i j => .bl (decide (j < i))) gtW := oz_int0 fun _ _ _ => rfl
theorem oz_ge {K : PySem.W.Frag} : OpZ K CT (rI0 fun i j => .bl (decide (j ≤ i))) geW := oz_int0 fun _ _ _ => rfl
theorem pz_neg (ha : PZ X CT U a fa) : PZ X CT U (.UnaryOp .USub a pos) (eUn negW fa) := pz_un un_neg (fun s S H a x Q EX gd ra h => by
  unfold negW at h
  split at h
  · rename_i i; exact ⟨i, ra, RG.here h gd rfl⟩
  · exact h.elim) ha
end

/-! ### + -/
def addW : O2 := fun a b S => match pOf S a, pOf S b with
  | some (.int i), some (.int j) => .ok (.val (.int (i + j))) S
  | some (.str x), some (.str y) => if x.length + y.length ≤ 1000000 then .ok (.val (.str (x ++ y))) S else .bad
  | some (.tup ps), some (.tup qs) => if ps.length + qs.length ≤ 100000 then .ok (.val (.tup (ps ++ qs))) S else .bad
  | some (.lst ps), some (.lst qs) => if ps.length + qs.length ≤ 100000 then .ok (.val (.lst (ps ++ qs))) S else .bad
  | _, _ => .bad
theorem OpR.or {X : Cx} {f : Value → Value → Sem Value} {r r' : R2} (h : OpR X f r) (h' : OpR X f r') : OpR X f (fun x y H Q => r x y H Q ∨ r' x y H Q) := by
  intro pins s σ H x y v u Q I rx ry q
  rcases q with q | q
  · exact h pins s σ H x y v u Q I rx ry q
  · exact h' pins s σ H x y v u Q I rx ry q
theorem sz5 {n : Nat} (h : n ≤ 100000) : n ≤ sizeLine := Nat.le_trans h (by decide)
theorem sz6 {n : Nat} (h : n ≤ 1000000) : n ≤ sizeLine := Nat.le_trans h (by decide)
theorem sz5' {n : Nat} (h : n < 100000) : n < sizeLine := Nat.lt_of_lt_of_le h (by decide)
section
variable {X : Cx} {CT : CTb} {U : WX} {a b c : Expr} {fa fb fc : FE W} {pos : Pos}
theorem RG.new {K : PySem.W.Frag} {s : Fs} {S : Store} {H : Hp} {p : P} {Q : VK} {EX : Value → Option Addr → Hp → Prop} {o : HO} (h : RG K CT (RepW K CT) s (.ok (.val p) S) Q EX) (g : Gd K CT s S H) {q : Addr} (hq : H q = none)
    (r : ∀ F', Ex s.F F' → F' q = some o → RepP K CT F' p (.ref q)) : Q (.ref q) (upd H q o) := by
  obtain ⟨g', x⟩ := g.newF hq o
  exact h _ _ _ x g' (r _ x.f upd_same)

theorem RepL.nil_iff {K : PySem.W.Frag} {CT : CTb} {F : Hp} {ps : List P} {vs : List V} (h : RepL K CT F ps vs) : vs = [] ↔ ps = [] := by
  have e := h.length
  constructor
  · intro q; subst q; exact List.length_eq_zero_iff.mp e.symm
  · intro q; subst q; exact h
theorem oz_add {K : PySem.W.Frag} : OpZ K CT (fun x y H Q => (rI0 (fun i j => .int (i + j)) x y H Q ∨ (∃ i j, x = .str i ∧ y = .str j ∧ i.length + j.length ≤ sizeLine ∧ Q (.str (i ++ j)) H)) ∨ (rCatA K x y H Q ∨ rCat x y H Q)) addW := by
  intro s S H a b x y Q EX gd ra rb h
  unfold addW at h
  split at h
  · rename_i i j ea eb
    have h1 := (pOf_ok gd ra ea).non_lst (fun _ e => nomatch e)
    have h2 := (pOf_ok gd rb eb).non_lst (fun _ e => nomatch e)
    exact .inl (.inl ⟨i, j, h1, h2, RG.here h gd rfl⟩)
  · rename_i i j ea eb
    have h1 := (pOf_ok gd ra ea).non_lst (fun _ e => nomatch e)
    have h2 := (pOf_ok gd rb eb).non_lst (fun _ e => nomatch e)
    split at h
    · rename_i c
      exact .inl (.inr ⟨i, j, h1, h2, sz6 c, RG.here h gd rfl⟩)
    · exact h.elim
  · rename_i ps qs ea eb
    obtain ⟨a1, vs, rfl, t1, l1⟩ := (pOf_ok gd ra ea).non_lst (fun _ e => nomatch e)
    obtain ⟨a2, us, rfl, t2, l2⟩ := (pOf_ok gd rb eb).non_lst (fun _ e => nomatch e)
    split at h
    · rename_i c
      refine .inr (.inl ⟨a1, a2, vs, us, rfl, rfl, gd.exF.st t1, gd.exF.st t2, by rw [l1.length, l2.length]; exact sz5 c, fun e => ?_, fun _ e => ?_, fun _ _ p hp => ?_⟩)
      · have q := l1.nil_iff.mp e
        subst q
        exact RG.here h gd (show RepP K CT s.F (.tup ([] ++ qs)) (.ref a2) from ⟨a2, us, rfl, t2, by simpa using l2⟩)
      · have q := l2.nil_iff.mp e
        subst q
        exact RG.here h gd (show RepP K CT s.F (.tup (ps ++ [])) (.ref a1) from ⟨a1, vs, rfl, t1, by simpa using l1⟩)
      · exact RG.new h gd hp fun F' e q => ⟨p, _, rfl, .inl (.inl q), (l1.mono e).append (l2.mono e)⟩
    · exact h.elim
  · rename_i ps qs ea eb
    obtain ⟨a1, vs, rfl, t1, l1⟩ := (pOf_ok gd ra ea).lst gd
    obtain ⟨a2, us, rfl, t2, l2⟩ := (pOf_ok gd rb eb).lst gd
    split at h
    · rename_i c
      exact .inr (.inr ⟨a1, a2, vs, us, rfl, rfl, t1, t2, by rw [l1.length, l2.length]; exact sz5 c, fun p hp => RG.new h gd hp fun F' e q => ⟨p, _, rfl, q, (l1.mono e).append (l2.mono e)⟩⟩)
    · exact h.elim
  · exact h.elim
theorem pz_add (ha : PZ X CT U a fa) (hb : PZ X CT U b fb) : PZ X CT U (.BinOp a .Add b pos) (eBin addW fa fb) := pz_bin ((op_add.or op_add_str).or (op_catA.or op_cat)) oz_add ha hb

/-! ### * -/
def mulOk (i j : Int) : Bool := decide (i.natAbs < 2 ^ 64) || decide (j.natAbs < 2 ^ 64)
def mulW : O2 := fun a b S => match pOf S a, pOf S b with
  | some (.int i), some (.int j) => if mulOk i j = true then .ok (.val (.int (i * j))) S else .bad
  | some (.lst ps), some (.int k) => if k < 100000 ∧ -100000 < k ∧ ps.length * k.toNat ≤ 100000 then .ok (.val (.lst (List.replicate k.toNat ps).flatten)) S else .bad
  | some (.tup ps), some (.int k) => if 2 ≤ k ∧ k ≤ 1000 ∧ 1 ≤ ps.length ∧ ps.length ≤ 1000 then .ok (.val (.tup (List.replicate k.toNat ps).flatten)) S else .bad
  | _, _ => .bad
theorem RepL.rep {K : PySem.W.Frag} {CT : CTb} {F : Hp} {ps : List P} {vs : List V} (h : RepL K CT F ps vs) : ∀ n : Nat, RepL K CT F (List.replicate n ps).flatten (List.replicate n vs).flatten
  | 0 => rfl
  | n + 1 => by
    rw [List.replicate_succ, List.replicate_succ, List.flatten_cons, List.flatten_cons]
    exact h.append (RepL.rep h n)
theorem oz_mul {K : PySem.W.Frag} : OpZ K CT (fun x y H Q => rI CMul (fun i j => .int (i * j)) x y H Q ∨ (rRep x y H Q ∨ rRepT K x y H Q)) mulW := by
  intro s S H a b x y Q EX gd ra rb h
  unfold mulW at h
  split at h
  · rename_i i j ea eb
    have h1 := (pOf_ok gd ra ea).non_lst (fun _ e => nomatch e)
    have h2 := (pOf_ok gd rb eb).non_lst (fun _ e => nomatch e)
    split at h
    · rename_i c
      simp only [mulOk, Bool.or_eq_true, decide_eq_true_eq] at c
      exact .inl ⟨i, j, h1, h2, by unfold CMul; omega, RG.here h gd rfl⟩
    · exact h.elim
  · rename_i ps k ea eb
    obtain ⟨a1, vs, rfl, t1, l1⟩ := (pOf_ok gd ra ea).lst gd
    have h2 := (pOf_ok gd rb eb).non_lst (fun _ e => nomatch e)
    split at h
    · rename_i c
      exact .inr (.inl ⟨a1, k, vs, rfl, h2, t1, by omega, by omega, by rw [l1.length]; exact sz5 c.2.2, fun p hp => RG.new h gd hp fun F' e q => ⟨p, _, rfl, q, RepL.rep (l1.mono e) _⟩⟩)
    · exact h.elim
  · rename_i ps k ea eb
    obtain ⟨a1, vs, rfl, t1, l1⟩ := (pOf_ok gd ra ea).non_lst (fun _ e => nomatch e)
    have h2 := (pOf_ok gd rb eb).non_lst (fun _ e => nomatch e)
    split at h
    · rename_i c
      exact .inr (.inr ⟨a1, k, vs, rfl, h2, gd.exF.st t1, fun z => by
        have := l1.nil_iff.mp z
        subst this
        simp at c, c.1, c.2.1, by rw [l1.length]; exact c.2.2.2, fun p hp => RG.new h gd hp fun F' e q => ⟨p, _, rfl, .inl (.inl q), RepL.rep (l1.mono e) _⟩⟩)
    · exact h.elim
  · exact h.elim
theorem pz_mul (ha : PZ X CT U a fa) (hb : PZ X CT U b fb) : PZ X CT U (.BinOp a .Mult b pos) (eBin mulW fa fb) := pz_bin (op_mul.or (op_rep.or op_repT)) oz_mul ha hb

/-! ### == != is in -/
mutual
def toPy : P → Option PyData
  | .non => some .none
  | .bl b => some (.bool b)
  | .int i => some (.int i)
  | .str x => some (.str x)
  | .tup ps => (toPyL ps).map .tuple
  | .lst ps => (toPyL ps).map .list
  | _ => none
def toPyL : List P → Option (List PyData)
  | [] => some []
  | p :: ps => (toPy p).bind fun d => (toPyL ps).map (d :: ·)
end
mutual
theorem dp_of {K : PySem.W.Frag} {F : Hp} : ∀ {p : P} {v : V} {d : PyData}, RepP K CT F p v → toPy p = some d → Dp K F v d
  | .non, _, _, h, e => by rw [show _ = _ from h]; cases e; exact .non
  | .bl b, _, _, h, e => by rw [show _ = _ from h]; cases e; exact .bl b
  | .int b, _, _, h, e => by rw [show _ = _ from h]; cases e; exact .int b
  | .str b, _, _, h, e => by rw [show _ = _ from h]; cases e; exact .str b
  | .tup ps, _, _, ⟨a, vs, h1, h2, h3⟩, e => by
    simp only [toPy, Option.map_eq_some_iff] at e
    obtain ⟨ds, e1, rfl⟩ := e
    rw [h1]; exact .tup h2 (dpL_of h3 e1)
  | .lst ps, _, _, ⟨a, vs, h1, h2, h3⟩, e => by
    simp only [toPy, Option.map_eq_some_iff] at e
    obtain ⟨ds, e1, rfl⟩ := e
    rw [h1]; exact .lst (SqL.of h2) (dpL_of h3 e1)
  | .dct _ _, _, _, h, e => h.elim
  | .obj _ _ _, _, _, h, e => by simp [toPy] at e
  | .scr _, _, _, h, e => by simp [toPy] at e
theorem dpL_of {K : PySem.W.Frag} {F : Hp} : ∀ {ps : List P} {vs : List V} {ds : List PyData}, RepL K CT F ps vs → toPyL ps = some ds → DpAll K F vs ds
  | [], _, _, h, e => by rw [show _ = _ from h]; cases e; exact .nil
  | p :: ps, _, _, ⟨v, vs', h1, h2, h3⟩, e => by
    simp only [toPyL, Option.bind_eq_some_iff, Option.map_eq_some_iff] at e
    obtain ⟨d, e1, ds, e2, rfl⟩ := e
    rw [h1]; exact .cons (dp_of h2 e1) (dpL_of h3 e2)
end
theorem dp_now {K : PySem.W.Frag} {s : Fs} {S : Store} {H : Hp} {p : P} {v : V} {d : PyData} (g : Gd K CT s S H) (r : RepN K CT s H p v) (e : toPy p = some d) : Dp K H v d := by
  rcases r with r | ⟨ps, a, vs, rfl, rfl, h1, h2⟩
  · exact dp_of (r.mono g.exF) e
  · simp only [toPy, Option.map_eq_some_iff] at e
    obtain ⟨ds, e1, rfl⟩ := e
    exact .lst (SqL.of h1) (dpL_of (h2.mono g.exF) e1)
/-- == of data; none: no answer -/
def eqP (p q : P) : Option Bool := match p, q with
  | .int i, .int j => some (decide (i = j))
  | .str x, .str y => some (decide (x = y))
  | .bl b, .bl c => some (decide (b = c))
  | .int _, .str _ => some false
  | .str _, .int _ => some false
  | .non, .int _ => some false
  | .int _, .non => some false
  | .non, .str _ => some false
  | .str _, .non => some false
  | .bl _, .str _ => some false
  | .str _, .bl _ => some false
  | _, _ => match toPy p, toPy q with
    | some d, some e => if SeqAt.shaped d = true ∧ SeqAt.shaped e = true then some (PyData.eqv d e) else none
    | _, _ => none
def eqW (neg : Bool) : O2 := fun a b S => match pOf S a, pOf S b with
  | some p, some q => match eqP p q with
    | some k => .ok (.val (.bl (if neg = true then !k else k))) S
    | none => .bad
  | _, _ => .bad
theorem eqP_ok {K : PySem.W.Frag} {s : Fs} {S : Store} {H : Hp} {p q : P} {x y : V} {k : Bool} (g : Gd K CT s S H) (rp : RepN K CT s H p x) (rq : RepN K CT s H q y) (e : eqP p q = some k) :
    (scal x y = true ∧ k = decide (x = y)) ∨ ∃ d e, Dp K H x d ∧ Dp K H y e ∧ SeqAt.shaped d = true ∧ SeqAt.shaped e = true ∧ k = PyData.eqv d e := by
  have deep : (match toPy p, toPy q with
    | some d, some e => if SeqAt.shaped d = true ∧ SeqAt.shaped e = true then some (PyData.eqv d e) else none
    | _, _ => none) = some k → ∃ d e, Dp K H x d ∧ Dp K H y e ∧ SeqAt.shaped d = true ∧ SeqAt.shaped e = true ∧ k = PyData.eqv d e := by
    intro h
    cases ed : toPy p with
    | none => rw [ed] at h; cases h
    | some d =>
      cases ee : toPy q with
      | none => rw [ed, ee] at h; cases h
      | some d' =>
        rw [ed, ee] at h
        simp only at h
        split at h
        · rename_i c
          cases h
          exact ⟨d, d', dp_now g rp ed, dp_now g rq ee, c.1, c.2, rfl⟩
        · cases h
  have fl : ∀ {p : P} {x : V}, RepN K CT s H p x → (∀ ps, p ≠ .lst ps) → RepP K CT s.F p x := fun r h => r.non_lst h
  unfold eqP at e
  split at e
  all_goals first
    | exact .inr (deep e)
    | (have h1 := fl rp (fun _ z => nomatch z)
       have h2 := fl rq (fun _ z => nomatch z)
       have h1' := show _ = _ from h1
       have h2' := show _ = _ from h2
       subst h1' h2'
       cases e
       refine .inl ⟨rfl, ?_⟩
       simp)
theorem pz_eqR {neg : Bool} {op : CmpOp} (hz : OpR X (compareOp op) (fun x y H Q => (scal x y = true ∧ Q (.bl (if neg = true then !decide (x = y) else decide (x = y))) H) ∨ (∃ d e, Dp X.K H x d ∧ Dp X.K H y e ∧ SeqAt.shaped d = true ∧ SeqAt.shaped e = true ∧ Q (.bl (if neg = true then !PyData.eqv d e else PyData.eqv d e)) H))) : ∃ r, OpR X (compareOp op) r ∧ OpZ X.K CT r (eqW neg) := by
  refine ⟨_, hz, fun s S H a b x y Q EX gd ra rb h => ?_⟩
  unfold eqW at h
  split at h
  · rename_i p q ea eb
    split at h
    · rename_i k ek
      rcases eqP_ok gd (pOf_ok gd ra ea) (pOf_ok gd rb eb) ek with ⟨h1, rfl⟩ | ⟨d, e, h1, h2, h3, h4, rfl⟩
      · exact .inl ⟨h1, RG.here h gd rfl⟩
      · exact .inr ⟨d, e, h1, h2, h3, h4, RG.here h gd rfl⟩
    · exact h.elim
  · exact h.elim
theorem or_eq (hu : X.A.units + 64 < cLine) : ∃ r, OpR X (compareOp .Eq) r ∧ OpZ X.K CT r (eqW false) := pz_eqR (neg := false) (OpR.or op_eq (op_eqD hu))
theorem or_ne (hu : X.A.units + 64 < cLine) : ∃ r, OpR X (compareOp .NotEq) r ∧ OpZ X.K CT r (eqW true) := pz_eqR (neg := true) (OpR.or op_ne (op_neD hu))
theorem pz_eq (hu : X.A.units + 64 < cLine) (ha : PZ X CT U a fa) (hb : PZ X CT U b fb) (hm : behindInMarks .Eq b = false := by first | exact nomark _ | rfl) : PZ X CT U (.Compare a [.Eq] [b] pos) (eBin (eqW false) fa fb) := by
  obtain ⟨r, h1, h2⟩ := or_eq (CT := CT) hu
  exact pz_cmp h1 h2 ha hb hm
theorem zt_eq (hu : X.A.units + 64 < cLine) (ha : PZ X CT U a fa) (hb : PZ X CT U b fb) (hm : behindInMarks .Eq b = false := by first | exact nomark _ | rfl) : PZT X CT U (.Compare a [.Eq] [b] pos) (tstB (eBin (eqW false) fa fb)) := by
  obtain ⟨r, h1, h2⟩ := or_eq (CT := CT) hu
  exact zt_cmp h1 h2 ha hb hm
theorem pz_ne (hu : X.A.units + 64 < cLine) (ha : PZ X CT U a fa) (hb : PZ X CT U b fb) (hm : behindInMarks .NotEq b = false := by first | exact nomark _ | rfl) : PZ X CT U (.Compare a [.NotEq] [b] pos) (eBin (eqW true) fa fb) := by
  obtain ⟨r, h1, h2⟩ := or_ne (CT := CT) hu
  exact pz_cmp h1 h2 ha hb hm
theorem zt_ne (hu : X.A.units + 64 < cLine) (ha : PZ X CT U a fa) (hb : PZ X CT U b fb) (hm : behindInMarks .NotEq b = false := by first | exact nomark _ | rfl) : PZT X CT U (.Compare a [.NotEq] [b] pos) (tstB (eBin (eqW true) fa fb)) := by
  obtain ⟨r, h1, h2⟩ := or_ne (CT := CT) hu
  exact zt_cmp h1 h2 ha hb hm
def isNoneW : W → Bool
  | .val .non => true
  | _ => false
def isBlW (k : Bool) : W → Bool
  | .val (.bl j) => j == k
  | _ => false
def isW (neg : Bool) : O2 := fun a b S => match b with
  | .val .non => .ok (.val (.bl (if neg = true then !isNoneW a else isNoneW a))) S
  | .val (.bl k) => .ok (.val (.bl (if neg = true then !isBlW k a else isBlW k a))) S
  | _ => .bad
theorem isBl_ok {K : PySem.W.Frag} {s : Fs} {k : Bool} {w : W} {v : V} (r : RepW K CT s w v) : decide (v = V.bl k) = isBlW k w := by
  cases w with
  | loc n => obtain ⟨a, _, rfl⟩ := r; simp [isBlW]
  | val p =>
    cases p with
    | non => rw [show v = _ from r]; simp [isBlW]
    | bl b => rw [show v = _ from r]; cases b <;> cases k <;> simp [isBlW]
    | int b => rw [show v = _ from r]; simp [isBlW]
    | str b => rw [show v = _ from r]; simp [isBlW]
    | tup ps => obtain ⟨a, vs, rfl, _⟩ := r; simp [isBlW]
    | lst ps => obtain ⟨a, vs, rfl, _⟩ := r; simp [isBlW]
    | dct _ _ => exact r.elim
    | obj _ _ _ => obtain ⟨a, dx, vs, rfl, _⟩ := r; simp [isBlW]
    | scr _ => obtain ⟨a, rfl, _⟩ := r; simp [isBlW]
theorem isNone_ok {K : PySem.W.Frag} {s : Fs} {w : W} {v : V} (r : RepW K CT s w v) : decide (v = V.non) = isNoneW w := by
  cases w with
  | loc n => obtain ⟨a, _, rfl⟩ := r; simp [isNoneW]
  | val p =>
    cases p with
    | non => rw [show v = _ from r]; simp [isNoneW]
    | bl b => rw [show v = _ from r]; simp [isNoneW]
    | int b => rw [show v = _ from r]; simp [isNoneW]
    | str b => rw [show v = _ from r]; simp [isNoneW]
    | tup ps => obtain ⟨a, vs, rfl, _⟩ := r; simp [isNoneW]
    | lst ps => obtain ⟨a, vs, rfl, _⟩ := r; simp [isNoneW]
    | dct _ _ => exact r.elim
    | obj _ _ _ => obtain ⟨a, dx, vs, rfl, _⟩ := r; simp [isNoneW]
    | scr _ => obtain ⟨a, rfl, _⟩ := r; simp [isNoneW]
def rIsZ : R2 := fun x y H Q => (y = .non ∨ ∃ k, y = .bl k) ∧ Q (.bl (decide (x = y))) H
def rIsNotZ : R2 := fun x y H Q => (y = .non ∨ ∃ k, y = .bl k) ∧ Q (.bl (!decide (x = y))) H
theorem oz_is {K : PySem.W.Frag} : OpZ K CT rIsZ (isW false) := fun s S H a b x y Q EX gd ra rb h => by
  unfold isW at h
  split at h
  · refine ⟨.inl rb, ?_⟩
    rw [show y = _ from rb, isNone_ok ra]
    exact RG.here h gd rfl
  · refine ⟨.inr ⟨_, rb⟩, ?_⟩
    rw [show y = _ from rb, isBl_ok ra]
    exact RG.here h gd rfl
  · exact h.elim
theorem oz_isnot {K : PySem.W.Frag} : OpZ K CT rIsNotZ (isW true) := fun s S H a b x y Q EX gd ra rb h => by
  unfold isW at h
  split at h
  · refine ⟨.inl rb, ?_⟩
    rw [show y = _ from rb, isNone_ok ra]
    exact RG.here h gd rfl
  · refine ⟨.inr ⟨_, rb⟩, ?_⟩
    rw [show y = _ from rb, isBl_ok ra]
    exact RG.here h gd rfl
  · exact h.elim
theorem is_bool_gen {M : Model} {A : Around} {E : Value → Shared → Prop} {s : Shared} {Q : Value → Shared → Prop} {v : Value} {k : Bool} (hv : ∀ i, v ≠ .builtin i) (h : Q (.bool (v == .bool k)) s) : wpAny M A (compareOp .Is v (.bool k)) Q E s := by
  cases v <;> first | exact absurd rfl (hv _) | exact wpAny_pure h
theorem isnot_bool_gen {M : Model} {A : Around} {E : Value → Shared → Prop} {s : Shared} {Q : Value → Shared → Prop} {v : Value} {k : Bool} (hv : ∀ i, v ≠ .builtin i) (h : Q (.bool (!(v == .bool k))) s) : wpAny M A (compareOp .IsNot v (.bool k)) Q E s := by
  cases v <;> first | exact absurd rfl (hv _) | exact wpAny_pure h
section
variable {X : Cx}
theorem op_isZ : OpR X (compareOp .Is) rIsZ := by
  intro pins s σ H x y v u Q I rx ry h
  obtain ⟨rfl | ⟨k, rfl⟩, q⟩ := h
  · exact op_isN pins s σ H x .non v u Q I rx ry ⟨rfl, q⟩
  · cases ry
    refine is_bool_gen (fun i e => by subst e; cases x <;> first | (cases rx; done) | (obtain ⟨t, h⟩ := rx; cases h; done)) (fin_bl I q ?_)
    cases x <;> first
      | (cases rx; rfl)
      | (obtain ⟨t, rfl⟩ := rx; rfl)
      | (cases rx; rename_i b; cases b <;> cases k <;> rfl)
theorem op_isnotZ : OpR X (compareOp .IsNot) rIsNotZ := by
  intro pins s σ H x y v u Q I rx ry h
  obtain ⟨rfl | ⟨k, rfl⟩, q⟩ := h
  · exact op_notN pins s σ H x .non v u Q I rx ry ⟨rfl, q⟩
  · cases ry
    refine isnot_bool_gen (fun i e => by subst e; cases x <;> first | (cases rx; done) | (obtain ⟨t, h⟩ := rx; cases h; done)) (fin_bl I q ?_)
    cases x <;> first
      | (cases rx; rfl)
      | (obtain ⟨t, rfl⟩ := rx; rfl)
      | (cases rx; rename_i b; cases b <;> cases k <;> rfl)
end

/-! ### in -/
def flatP : P → Bool
  | .non => true | .bl _ => true | .int _ => true | .str _ => true
  | _ => false
def eqF : P → P → Bool
  | .non, .non => true
  | .bl a, .bl b => a == b
  | .bl a, .int b => (if a then 1 else 0) == b
  | .int a, .bl b => a == (if b then 1 else 0)
  | .int a, .int b => a == b
  | .str a, .str b => a == b
  | _, _ => false
theorem eqF_ok {K : PySem.W.Frag} {F : Hp} {p q : P} {x y : V} (h1 : flatP p = true) (h2 : flatP q = true) (r1 : RepP K CT F p x) (r2 : RepP K CT F q y) : eqV x y = eqF p q := by
  cases p <;> first | (simp [flatP] at h1; done) | (cases q <;> first | (simp [flatP] at h2; done) | (rw [show x = _ from r1, show y = _ from r2]; rfl))
theorem flat_ok {K : PySem.W.Frag} {F : Hp} {p : P} {x : V} (h1 : flatP p = true) (r1 : RepP K CT F p x) : flatV x = true := by
  cases p <;> first | (simp [flatP] at h1; done) | (rw [show x = _ from r1]; rfl)
theorem flats_ok {K : PySem.W.Frag} {F : Hp} : ∀ {ps : List P} {vs : List V}, ps.all flatP = true → RepL K CT F ps vs → vs.all flatV = true
  | [], _, _, h => by rw [show _ = _ from h]; rfl
  | p :: ps, _, e, ⟨v, vs', h1, h2, h3⟩ => by
    simp only [List.all_cons, Bool.and_eq_true] at e
    subst h1
    simp only [List.all_cons, Bool.and_eq_true]
    exact ⟨flat_ok e.1 h2, flats_ok e.2 h3⟩
theorem inF_ok {K : PySem.W.Frag} {F : Hp} {p : P} {x : V} (hp : flatP p = true) (rp : RepP K CT F p x) : ∀ {ps : List P} {vs : List V}, ps.all flatP = true → RepL K CT F ps vs → inV x vs = ps.any (fun q => eqF q p)
  | [], _, _, h => by rw [show _ = _ from h]; rfl
  | q :: ps, _, e, ⟨v, vs', h1, h2, h3⟩ => by
    simp only [List.all_cons, Bool.and_eq_true] at e
    subst h1
    have ih := inF_ok hp rp e.2 h3
    unfold inV at ih ⊢
    rw [List.any_cons, List.any_cons, ih, eqF_ok e.1 hp h2 rp]
/-- in a list, a tuple, a text -/
def inP (p q : P) : Option Bool := match q with
  | .lst ps => if flatP p && ps.all flatP then some (ps.any fun q => eqF q p) else none
  | .tup ps => if flatP p && ps.all flatP then some (ps.any fun q => eqF q p) else none
  | .str z => match p with
    | .str x => some (!(Builtin.Str.occurrences z x 0 z.length 1).isEmpty)
    | _ => none
  | _ => none
def inW (neg : Bool) : O2 := fun a b S => match pOf S a, pOf S b with
  | some p, some q => match inP p q with
    | some k => .ok (.val (.bl (if neg = true then !k else k))) S
    | none => .bad
  | _, _ => .bad
theorem oz_in {K : PySem.W.Frag} {neg : Bool} : OpZ K CT (fun x y H Q => rIn K neg x y H Q ∨ ∃ i j, x = .str i ∧ y = .str j ∧ Q (.bl (if neg = true then !(!(Builtin.Str.occurrences j i 0 j.length 1).isEmpty) else !(Builtin.Str.occurrences j i 0 j.length 1).isEmpty)) H) (inW neg) := fun s S H a b x y Q EX gd ra rb h => by
  unfold inW at h
  split at h
  · rename_i p q ea eb
    have rp := pOf_ok gd ra ea
    have rq := pOf_ok gd rb eb
    split at h
    · rename_i k ek
      unfold inP at ek
      split at ek
      · rename_i ps
        split at ek
        · rename_i c
          cases ek
          simp only [Bool.and_eq_true] at c
          have rp' := rp.non_lst (fun _ z => by subst z; simp [flatP] at c)
          obtain ⟨a, vs, rfl, h1, h2⟩ := rq.lst gd
          refine .inl ⟨a, vs, rfl, .inl (SqL.of h1), flat_ok c.1 rp', flats_ok c.2 h2, ?_⟩
          rw [inF_ok c.1 rp' c.2 h2]
          exact RG.here h gd (by cases neg <;> rfl)
        · cases ek
      · rename_i ps
        split at ek
        · rename_i c
          cases ek
          simp only [Bool.and_eq_true] at c
          have rp' := rp.non_lst (fun _ z => by subst z; simp [flatP] at c)
          obtain ⟨a, vs, rfl, h1, h2⟩ := rq.non_lst (fun _ z => nomatch z)
          refine .inl ⟨a, vs, rfl, .inr (gd.exF.st h1), flat_ok c.1 rp', flats_ok c.2 h2, ?_⟩
          rw [inF_ok c.1 rp' c.2 h2]
          exact RG.here h gd (by cases neg <;> rfl)
        · cases ek
      · rename_i z
        split at ek
        · rename_i z'
          cases ek
          have h1 := rp.non_lst (fun _ z => nomatch z)
          have h2 := rq.non_lst (fun _ z => nomatch z)
          exact .inr ⟨_, _, h1, h2, RG.here h gd (by cases neg <;> rfl)⟩
        · cases ek
      · cases ek
    · exact h.elim
  · exact h.elim
theorem or_in : OpR X (compareOp .In) (fun x y H Q => rIn X.K false x y H Q ∨ ∃ i j, x = .str i ∧ y = .str j ∧ Q (.bl (if false = true then !(!(Builtin.Str.occurrences j i 0 j.length 1).isEmpty) else !(Builtin.Str.occurrences j i 0 j.length 1).isEmpty)) H) := OpR.or op_in_seq op_in_str
theorem or_notin : OpR X (compareOp .NotIn) (fun x y H Q => rIn X.K true x y H Q ∨ ∃ i j, x = .str i ∧ y = .str j ∧ Q (.bl (if true = true then !(!(Builtin.Str.occurrences j i 0 j.length 1).isEmpty) else !(Builtin.Str.occurrences j i 0 j.length 1).isEmpty)) H) := OpR.or op_notIn_seq op_notIn_str
end
end Z
end
-- part Z3
section
set_option Elab.async false
set_option linter.all false
set_option maxRecDepth 100000
set_option autoImplicit false
namespace Z
open PySem PySem.Spec PyProof.Rows L2

/-! ### freezing -/
section
variable {K : PySem.W.Frag} {CT : CTb} {s : Fs} {S : Store} {H : Hp}
theorem Gd.freeze (g : Gd K CT s S H) {n : Nat} {a : Addr} {c : Cell} {o : HO} {p : P} (h1 : S[n]? = some c) (hl : live c) (h2 : s.m[n]? = some a) (hF : s.F a = none) (hG : s.G a = none) (hH : H a = some o)
    (r : ∀ F', Ex s.F F' → F' a = some o → RepP K CT F' p (.ref a)) : Gd K CT { s with F := upd s.F a o } (S.set n (.frz p)) H ∧ Ext s { s with F := upd s.F a o } := by
  have x : Ext s { s with F := upd s.F a o } := ⟨rfl, Ex.new hF, fun _ _ h => h, fun b h1 h2 => by
    have : b ≠ a := fun e => h2 (by rw [e]; exact hG)
    show upd s.F a o b = none
    rw [upd_ne this]; exact h1⟩
  have nlt := (List.getElem?_eq_some_iff.mp h1).1
  have oth : ∀ (n' : Nat) (c' : Cell) (a' : Addr), S[n']? = some c' → s.m[n']? = some a' → live c' → n ≠ n' → a' ≠ a := fun n' c' a' q1 q2 l ne e => by
    subst e; exact ne (g.inj n n' c c' a' h1 q1 hl l h2 q2)
  have hna : ∀ P ∈ CT.tabs, P ≠ a := fun P hP z => by
    have q := g.cells n c a h1 h2
    obtain ⟨ps, hp, _⟩ := g.tab P hP
    rw [z] at hp
    cases c with
    | lst ws => obtain ⟨_, _, vs, q3, _⟩ := q; rw [q3] at hp; cases hp
    | ins c ns ws => obtain ⟨_, _, dx, vs, q3, _, _⟩ := q; rw [q3] at hp; cases hp
    | frz p => exact hl.elim
  refine ⟨⟨fun b u e => ?_, g.exG, by rw [List.length_set]; exact g.len, fun n' d b q1 q2 => ?_, fun n1 n2 d1 d2 b q1 q2 l1 l2 e1 e2 => ?_, g.tab, fun P hP => by show upd s.F a o P = none; rw [upd_ne (hna P hP)]; exact g.notF P hP, g.notG⟩, x⟩
  · by_cases q : b = a
    · subst q
      have e' : upd s.F b o b = some u := e
      rw [upd_same] at e'; cases e'; exact hH
    · have e' : upd s.F a o b = some u := e
      rw [upd_ne q] at e'; exact g.exF b u e'
  · rw [List.getElem?_set] at q1
    by_cases e : n = n'
    · subst e
      rw [if_pos rfl, if_pos nlt] at q1
      cases q1
      have q2' : s.m[n]? = some b := q2
      rw [h2] at q2'; cases q2'
      exact r _ x.f upd_same
    · rw [if_neg e] at q1
      have q := g.cells n' d b q1 q2
      have ne : live d → b ≠ a := fun l => oth n' d b q1 q2 l e
      cases d with
      | lst ws => obtain ⟨r1, r2, vs, r3, r4⟩ := q; exact ⟨by show upd s.F a o b = none; rw [upd_ne (ne trivial)]; exact r1, r2, vs, r3, r4.mono x⟩
      | ins c ns ws => obtain ⟨r1, r2, dx, vs, r3, ql, r4⟩ := q; exact ⟨by show upd s.F a o b = none; rw [upd_ne (ne trivial)]; exact r1, r2, dx, vs, r3, ql, r4.mono x⟩
      | frz p => exact RepP.mono x.f q
  · have back : ∀ (k : Nat) (d : Cell), (S.set n (Cell.frz p))[k]? = some d → live d → S[k]? = some d := fun k d q l => by
      rw [List.getElem?_set] at q
      by_cases e : n = k
      · subst e
        rw [if_pos rfl, if_pos nlt] at q
        cases q; exact l.elim
      · rw [if_neg e] at q; exact q
    exact g.inj n1 n2 d1 d2 b (back _ _ q1 l1) (back _ _ q2 l2) l1 l2 e1 e2
end
def frz1 (S : Store) : W → Option (P × Store)
  | .val p => some (p, S)
  | .loc n => match S[n]? with
    | some (.lst ws) => (valAll ws).map fun ps => (.lst ps, S.set n (.frz (.lst ps)))
    | some (.frz p) => some (p, S)
    | _ => none
def frzs1 (S : Store) : List W → Option (List P × Store)
  | [] => some ([], S)
  | w :: ws => (frz1 S w).bind fun r => (frzs1 r.2 ws).map fun q => (r.1 :: q.1, q.2)
/-- deep: an instance with its lists -/
def frz (S : Store) : W → Option (P × Store)
  | .loc n => match S[n]? with
    | some (.ins c ns ws) => (frzs1 S ws).bind fun r => match r.2[n]? with
      | some (.ins _ _ _) => some (.obj c ns r.1, r.2.set n (.frz (.obj c ns r.1)))
      | _ => none
    | _ => frz1 S (.loc n)
  | w => frz1 S w
def frzs (S : Store) : List W → Option (List P × Store)
  | [] => some ([], S)
  | w :: ws => (frz S w).bind fun r => (frzs r.2 ws).map fun q => (r.1 :: q.1, q.2)
section
variable {K : PySem.W.Frag} {CT : CTb} {s : Fs} {S S' : Store} {H : Hp}
theorem frz1_ok (g : Gd K CT s S H) {w : W} {v : V} {p : P} (r : RepW K CT s w v) (e : frz1 S w = some (p, S')) : ∃ s', Ext s s' ∧ Gd K CT s' S' H ∧ RepP K CT s'.F p v := by
  cases w with
  | val q => cases e; exact ⟨s, Ext.refl s, g, r⟩
  | loc n =>
    obtain ⟨a, h1, rfl⟩ := r
    unfold frz1 at e
    cases hc : S[n]? with
    | none => simp [hc] at e
    | some c =>
      have q := g.cells n c a hc h1
      cases c with
      | lst ws =>
        simp only [hc, Option.map_eq_some_iff] at e
        obtain ⟨ps, e1, e2⟩ := e
        cases e2
        obtain ⟨q1, q2, vs, q3, q4⟩ := q
        have rr : ∀ F', Ex s.F F' → F' a = some (.lst vs) → RepP K CT F' (.lst ps) (.ref a) := fun F' e f => ⟨a, vs, rfl, f, (valAll_ok e1 q4).mono e⟩
        obtain ⟨g', x⟩ := g.freeze hc trivial h1 q1 q2 q3 rr
        exact ⟨_, x, g', rr _ x.f upd_same⟩
      | ins c ns ws => simp [hc] at e
      | frz p' => simp only [hc] at e; cases e; exact ⟨s, Ext.refl s, g, q⟩
theorem frzs1_ok {ws : List W} : ∀ {vs : List V} {ps : List P} {s : Fs} {S : Store}, Gd K CT s S H → RepWs K CT s ws vs → frzs1 S ws = some (ps, S') → ∃ s', Ext s s' ∧ Gd K CT s' S' H ∧ RepL K CT s'.F ps vs := by
  induction ws with
  | nil => intro vs ps s S g r e; cases e; exact ⟨s, Ext.refl s, g, r⟩
  | cons w ws ih =>
    intro vs ps s S g r e
    obtain ⟨v, vs', h1, h2, h3⟩ := r
    simp only [frzs1, Option.bind_eq_some_iff, Option.map_eq_some_iff] at e
    obtain ⟨⟨p, S1⟩, e1, ⟨ps, S2⟩, e2, e3⟩ := e
    cases e3
    obtain ⟨s1, x1, g1, r1⟩ := frz1_ok g h2 e1
    obtain ⟨s2, x2, g2, r2⟩ := ih g1 (h3.mono x1) e2
    exact ⟨s2, x1.trans x2, g2, ⟨v, vs', h1, r1.mono x2.f, r2⟩⟩
theorem frz_ok (g : Gd K CT s S H) {w : W} {v : V} {p : P} (r : RepW K CT s w v) (e : frz S w = some (p, S')) : ∃ s', Ext s s' ∧ Gd K CT s' S' H ∧ RepP K CT s'.F p v := by
  cases w with
  | val q => exact frz1_ok g r e
  | loc n =>
    unfold frz at e
    cases hc : S[n]? with
    | none => simp only [hc] at e; exact frz1_ok g r e
    | some c0 =>
      cases c0 with
      | lst ws => simp only [hc] at e; exact frz1_ok g r e
      | frz p' => simp only [hc] at e; exact frz1_ok g r e
      | ins c ns ws =>
        simp only [hc] at e
        obtain ⟨a, h1, rfl⟩ := r
        obtain ⟨q1, q2, dx, vs, q3, ql, q4⟩ := g.cells n _ a hc h1
        simp only [Option.bind_eq_some_iff] at e
        obtain ⟨⟨ps, S1⟩, e1, e2⟩ := e
        obtain ⟨s1, x1, g1, r1⟩ := frzs1_ok g q4 e1
        cases hc2 : S1[n]? with
        | none => simp [hc2] at e2
        | some c2 =>
          cases c2 with
          | lst ws => simp [hc2] at e2
          | frz ws => simp [hc2] at e2
          | ins c2 ns2 ws2 =>
            simp only [hc2] at e2
            cases e2
            have h1' := x1.m n a h1
            obtain ⟨p1, p2, _, _, _, _⟩ := g1.cells n _ a hc2 h1'
            have l1 := r1.length
            have l2 := q4.length
            have rr : ∀ F', Ex s1.F F' → F' a = some (.ins (CT c) dx (ns.zip vs)) → RepP K CT F' (.obj c ns ps) (.ref a) := fun F' e f => ⟨a, dx, vs, rfl, f, by omega, r1.mono e⟩
            obtain ⟨g', x⟩ := g1.freeze hc2 trivial h1' p1 p2 q3 rr
            exact ⟨_, x1.trans x, g', rr _ x.f upd_same⟩
theorem frzs_ok {ws : List W} : ∀ {vs : List V} {ps : List P} {s : Fs} {S : Store}, Gd K CT s S H → RepWs K CT s ws vs → frzs S ws = some (ps, S') → ∃ s', Ext s s' ∧ Gd K CT s' S' H ∧ RepL K CT s'.F ps vs := by
  induction ws with
  | nil => intro vs ps s S g r e; cases e; exact ⟨s, Ext.refl s, g, r⟩
  | cons w ws ih =>
    intro vs ps s S g r e
    obtain ⟨v, vs', h1, h2, h3⟩ := r
    simp only [frzs, Option.bind_eq_some_iff, Option.map_eq_some_iff] at e
    obtain ⟨⟨p, S1⟩, e1, ⟨ps, S2⟩, e2, e3⟩ := e
    cases e3
    obtain ⟨s1, x1, g1, r1⟩ := frz_ok g h2 e1
    obtain ⟨s2, x2, g2, r2⟩ := ih g1 (h3.mono x1) e2
    exact ⟨s2, x1.trans x2, g2, ⟨v, vs', h1, r1.mono x2.f, r2⟩⟩
end
def doFrz (w : W) (S : Store) : RE P := match frz S w with
  | some (p, S') => .ok p S'
  | none => .bad
def doFrzs (ws : List W) (S : Store) : RE (List P) := match frzs S ws with
  | some (p, S') => .ok p S'
  | none => .bad
section
variable {K : PySem.W.Frag} {CT : CTb} {s : Fs} {S : Store} {H : Hp} {β δ : Type} {Rb : Fs → β → δ → Prop} {Q : δ → Hp → Prop} {EX : Value → Option Addr → Hp → Prop}
theorem RG.frz {w : W} {v : V} {k : P → Store → RE β} (g : Gd K CT s S H) (r : RepW K CT s w v) (h : RG K CT Rb s ((doFrz w S).bind k) Q EX) : ∃ p S' s', Ext s s' ∧ Gd K CT s' S' H ∧ RepP K CT s'.F p v ∧ RG K CT Rb s' (k p S') Q EX := by
  unfold doFrz at h
  cases e : Z.frz S w with
  | none => rw [e] at h; exact h.elim
  | some q =>
    rw [e] at h
    obtain ⟨s', x, g', r'⟩ := frz_ok (S' := q.2) (p := q.1) g r e
    exact ⟨q.1, q.2, s', x, g', r', RG.ext x h⟩
theorem RG.frzs {ws : List W} {vs : List V} {k : List P → Store → RE β} (g : Gd K CT s S H) (r : RepWs K CT s ws vs) (h : RG K CT Rb s ((doFrzs ws S).bind k) Q EX) : ∃ ps S' s', Ext s s' ∧ Gd K CT s' S' H ∧ RepL K CT s'.F ps vs ∧ RG K CT Rb s' (k ps S') Q EX := by
  unfold doFrzs at h
  cases e : Z.frzs S ws with
  | none => rw [e] at h; exact h.elim
  | some q =>
    rw [e] at h
    obtain ⟨s', x, g', r'⟩ := frzs_ok (S' := q.2) (ps := q.1) g r e
    exact ⟨q.1, q.2, s', x, g', r', RG.ext x h⟩
end

/-! ### displays -/
def eTup (fa : FE (List W)) : FE W := fun ρ S => (fa ρ S).bind fun ws S1 => (doFrzs ws S1).bind fun ps S2 => if ps.length ≤ 100000 then .ok (.val (.tup ps)) S2 else .bad
def eLstP (fa : FE (List W)) : FE W := fun ρ S => (fa ρ S).bind fun ws S1 => (doFrzs ws S1).bind fun ps S2 => if ps.length ≤ 100000 then .ok (.val (.lst ps)) S2 else .bad
/-- a list that will be changed: a new cell -/
def eLst (fa : FE (List W)) : FE W := fun ρ S => (fa ρ S).bind fun ws S1 => if ws.length ≤ 100000 then .ok (.loc S1.length) (S1 ++ [.lst ws]) else .bad
section
variable {X : Cx} {CT : CTb} {U : WX} {es : List Expr} {fa : FE (List W)} {pos : Pos}
theorem pz_tup {x1 : Nat} (ha : PZA X CT U es fa) : PZ X CT U (.Tuple es x1 pos) (eTup fa) := weakE (pe_tup ha) fun σ H Q ⟨s, S, ρ, gd, en, h⟩ =>
  ⟨s, S, ρ, gd, en, RG.step h fun ws S1 s1 H1 vs x1 g1 r1 h1 => by
    obtain ⟨ps, S2, s2, x2, g2, r2, h2⟩ := RG.frzs g1 r1 h1
    split at h2
    · rename_i c
      exact ⟨by rw [r2.length]; exact sz5 c, fun p hp => RG.new h2 g2 hp fun F' e q => ⟨p, _, rfl, .inl (.inl q), r2.mono e⟩⟩
    · exact h2.elim⟩
theorem pz_lstP (ha : PZA X CT U es fa) : PZ X CT U (.List es pos) (eLstP fa) := weakE (pe_lst ha) fun σ H Q ⟨s, S, ρ, gd, en, h⟩ =>
  ⟨s, S, ρ, gd, en, RG.step h fun ws S1 s1 H1 vs x1 g1 r1 h1 => by
    obtain ⟨ps, S2, s2, x2, g2, r2, h2⟩ := RG.frzs g1 r1 h1
    split at h2
    · rename_i c
      exact ⟨by rw [r2.length]; exact sz5 c, fun p hp => RG.new h2 g2 hp fun F' e q => ⟨p, _, rfl, q, r2.mono e⟩⟩
    · exact h2.elim⟩
theorem RG.newL {K : PySem.W.Frag} {s : Fs} {S : Store} {H : Hp} {ws : List W} {vs : List V} {Q : VK} {EX : Value → Option Addr → Hp → Prop} (h : RG K CT (RepW K CT) s (.ok (.loc S.length) (S ++ [.lst ws])) Q EX) (g : Gd K CT s S H) (r : RepWs K CT s ws vs)
    {p : Addr} (hp : H p = none) : Q (.ref p) (upd H p (.lst vs)) := by
  obtain ⟨g', x, e⟩ := g.newC (c := .lst ws) hp (upd H p (.lst vs)) (Ex.new hp) upd_same (fun s' x f1 f2 => ⟨f1, f2, vs, upd_same, r.mono x⟩)
  exact h _ _ _ x g' ⟨p, e, rfl⟩
theorem pz_lst (ha : PZA X CT U es fa) : PZ X CT U (.List es pos) (eLst fa) := weakE (pe_lst ha) fun σ H Q ⟨s, S, ρ, gd, en, h⟩ =>
  ⟨s, S, ρ, gd, en, RG.step h fun ws S1 s1 H1 vs x1 g1 r1 h1 => by
    split at h1
    · rename_i c
      exact ⟨by rw [r1.length]; exact sz5 c, fun p hp => RG.newL h1 g1 r1 hp⟩
    · exact h1.elim⟩
end

/-! ### items, len, slices -/
def seqW (S : Store) : W → Option (List W)
  | .val (.lst ps) => some (ps.map .val)
  | .val (.scr ns) => some (ns.map fun n => .val (.int n))
  | .loc n => match S[n]? with
    | some (.lst ws) => some ws
    | some (.frz (.lst ps)) => some (ps.map .val)
    | _ => none
  | _ => none
section
variable {K : PySem.W.Frag} {CT : CTb} {s : Fs} {S : Store} {H : Hp}
theorem RepL.ws : ∀ {ps : List P} {vs : List V}, RepL K CT s.F ps vs → RepWs K CT s (ps.map .val) vs
  | [], _, h => h
  | p :: ps, _, ⟨v, vs', h1, h2, h3⟩ => ⟨v, vs', h1, h2, RepL.ws h3⟩
theorem scr_ws : ∀ {ns : List Int}, RepWs K CT s (ns.map fun n => W.val (.int n)) (ns.map V.int)
  | [] => rfl
  | n :: ns => ⟨_, _, rfl, rfl, scr_ws⟩
theorem seqW_ok (g : Gd K CT s S H) {w : W} {v : V} {ws : List W} (r : RepW K CT s w v) (e : seqW S w = some ws) : ∃ a vs, v = .ref a ∧ SqL K H a vs ∧ RepWs K CT s ws vs := by
  cases w with
  | val p =>
    cases p with
    | lst ps => cases e; obtain ⟨a, vs, h1, h2, h3⟩ := r; exact ⟨a, vs, h1, SqL.of (g.exF _ _ h2), h3.ws⟩
    | scr ns => cases e; obtain ⟨a, h1, h2⟩ := r; exact ⟨a, _, h1, g.exF.sl h2, scr_ws⟩
    | _ => cases e
  | loc n =>
    obtain ⟨a, h1, rfl⟩ := r
    unfold seqW at e
    cases hc : S[n]? with
    | none => simp [hc] at e
    | some c =>
      have q := g.cells n _ a hc h1
      cases c with
      | ins c ns ws => simp [hc] at e
      | lst ws' =>
        simp only [hc] at e
        cases e
        obtain ⟨_, _, vs, q3, q4⟩ := q
        exact ⟨a, vs, rfl, SqL.of q3, q4⟩
      | frz p =>
        cases p with
        | lst ps =>
          simp only [hc] at e
          cases e
          obtain ⟨b, vs, hb, q3, q4⟩ := q
          cases hb
          exact ⟨_, vs, rfl, SqL.of (g.exF _ _ q3), q4.ws⟩
        | _ => simp [hc] at e
theorem atI_ws {ws : List W} {vs : List V} {i : Int} {w : W} (r : RepWs K CT s ws vs) (e : atI ws i = some w) : ∃ v, atI vs i = some v ∧ RepW K CT s w v := by
  unfold atI at e ⊢
  simp only [Option.bind_eq_some_iff] at e
  obtain ⟨j, e1, e2⟩ := e
  obtain ⟨v, h1, h2⟩ := r.get' e2
  exact ⟨v, by rw [r.length, e1]; exact h1, h2⟩
theorem atI_ps {F : Hp} {ps : List P} {vs : List V} {i : Int} {p : P} (r : RepL K CT F ps vs) (e : atI ps i = some p) : ∃ v, atI vs i = some v ∧ RepP K CT F p v := by
  unfold atI at e ⊢
  simp only [Option.bind_eq_some_iff] at e
  obtain ⟨j, e1, e2⟩ := e
  obtain ⟨v, h1, h2⟩ := r.get' e2
  exact ⟨v, by rw [r.length, e1]; exact h1, h2⟩
end
def orBad {α : Type} (o : Option α) (S : Store) : RE α := match o with
  | some a => .ok a S
  | none => .bad
def ixW : O2 := fun a b S => match b with
  | .val (.int i) => match a with
    | .val (.tup ps) => orBad ((atI ps i).map .val) S
    | .val (.str z) => if z.length ≤ 1000000 then orBad ((atI z.cps.toList i).map fun c => .val (.str ⟨#[c]⟩)) S else .bad
    | a => match seqW S a with
      | some ws => orBad (atI ws i) S
      | none => .bad
  | _ => .bad
section
variable {X : Cx} {CT : CTb} {U : WX} {a b c : Expr} {fa fb fc : FE W} {pos : Pos}
theorem RG.orBad {α γ : Type} {K : PySem.W.Frag} {Ra : Fs → α → γ → Prop} {s : Fs} {o : Option α} {S : Store} {Q : γ → Hp → Prop} {EX : Value → Option Addr → Hp → Prop} (h : RG K CT Ra s (orBad o S) Q EX) : ∃ a, o = some a ∧ RG K CT Ra s (.ok a S) Q EX := by
  cases o with
  | none => exact h.elim
  | some a => exact ⟨a, rfl, h⟩
theorem oz_ix {K : PySem.W.Frag} : OpZ K CT (rIx K) ixW := fun s S H a b x y Q EX gd ra rb h => by
  unfold ixW at h
  split at h
  · rename_i i
    split at h
    · rename_i ps
      obtain ⟨w, e, h⟩ := RG.orBad h
      simp only [Option.map_eq_some_iff] at e
      obtain ⟨p, e, rfl⟩ := e
      obtain ⟨a, vs, rfl, h1, h2⟩ := ra
      obtain ⟨v, e1, r1⟩ := atI_ps h2 e
      exact .inr (.inl ⟨a, vs, i, v, rfl, rb, gd.exF.st h1, e1, RG.here h gd r1⟩)
    · rename_i z
      split at h
      · rename_i c
        obtain ⟨w, e, h⟩ := RG.orBad h
        simp only [Option.map_eq_some_iff] at e
        obtain ⟨p, e, rfl⟩ := e
        exact .inr (.inr ⟨z, i, p, ra, rb, sz6 c, e, RG.here h gd rfl⟩)
      · exact h.elim
    · split at h
      · rename_i ws e
        obtain ⟨w, e1, h⟩ := RG.orBad h
        obtain ⟨a, vs, rfl, h1, h2⟩ := seqW_ok gd ra e
        obtain ⟨v, e2, r2⟩ := atI_ws h2 e1
        exact .inl ⟨a, vs, i, v, rfl, rb, h1, e2, RG.here h gd r2⟩
      · exact h.elim
  · exact h.elim
theorem pz_ix (ha : PZ X CT U a fa) (hb : PZ X CT U b fb) (hs : PlainIx b := by intro _ _; rfl) : PZ X CT U (.Subscript a b pos) (eBin ixW fa fb) := weakE (pe_ix ix_seq ha hb hs) fun σ H Q h => bin_can oz_ix h

/-! ### calls of built-ins -/
def CallZ (K : PySem.W.Frag) (CT : CTb) (r : List V → Hp → VK → Prop) (op : List W → Store → RE W) : Prop := ∀ (s : Fs) (S : Store) (H : Hp) (ws : List W) (vs : List V) (Q : VK) (EX : Value → Option Addr → Hp → Prop),
  Gd K CT s S H → RepWs K CT s ws vs → RG K CT (RepW K CT) s (op ws S) Q EX → r vs H Q
def eCB (op : List W → Store → RE W) (fa : FE (List W)) : FE W := fun ρ S => (fa ρ S).bind op
theorem cb_can {fa : FE (List W)} {r : List V → Hp → VK → Prop} {op : List W → Store → RE W} (hz : CallZ X.K CT r op) {σ : L2.St} {H : Hp} {Q : VK} (h : canE X.K CT U (eCB op fa) σ H Q) : tCB r (canA X.K CT U fa) σ H Q := by
  obtain ⟨s, S, ρ, gd, en, h⟩ := h
  exact ⟨s, S, ρ, gd, en, RG.step h fun ws S1 s1 H1 vs x1 g1 r1 h1 => hz s1 S1 H1 ws vs Q _ g1 r1 h1⟩
variable {e : Expr} {es : List Expr} {ga : FE (List W)} {x : Str} {p : Pos} {bid T : String} {r : List V → Hp → VK → Prop} {op : List W → Store → RE W}
theorem pz_callB (hc : CallR X (.builtin bid) r) (hz : CallZ X.K CT r op) (hg : Gl X x) (hm : X.mg x = none) (hv : bootBuiltins x = some (.builtin bid)) (ha : PZA X CT U (e :: es) ga) (hn : x ≠ "__name__" := by decide) (hdb : (x == ("__debug__" : Str)) = false := by decide)
    (he : starEach (e :: es) X.env = (false, eval e X.env) :: starEach es X.env := by rfl) (hpl : (backTo pos (starEach es X.env)).any (·.1) = false := by rfl) : PZ X CT U (.Call (.Name x p) (e :: es) [] pos) (eCB op ga) :=
  weakE (pe_callB hc hg hm hv ha hn hdb he hpl) fun σ H Q h => cb_can hz h
theorem pz_callTy (hc : CallR X (.type T) r) (hz : CallZ X.K CT r op) (hg : Gl X x) (hm : X.mg x = none) (hv : bootBuiltins x = some (.type T)) (ha : PZA X CT U (e :: es) ga) (hn : x ≠ "__name__" := by decide) (hdb : (x == ("__debug__" : Str)) = false := by decide)
    (he : starEach (e :: es) X.env = (false, eval e X.env) :: starEach es X.env := by rfl) (hpl : (backTo pos (starEach es X.env)).any (·.1) = false := by rfl) : PZ X CT U (.Call (.Name x p) (e :: es) [] pos) (eCB op ga) :=
  weakE (pe_callTy hc hg hm hv ha hn hdb he hpl) fun σ H Q h => cb_can hz h
theorem rep1 {K : PySem.W.Frag} {s : Fs} {w : W} {vs : List V} (r : RepWs K CT s [w] vs) : ∃ v, vs = [v] ∧ RepW K CT s w v := by
  obtain ⟨v, vs', rfl, h2, h3⟩ := r
  rw [show vs' = [] from h3]
  exact ⟨v, rfl, h2⟩
theorem rep2 {K : PySem.W.Frag} {s : Fs} {w u : W} {vs : List V} (r : RepWs K CT s [w, u] vs) : ∃ v v', vs = [v, v'] ∧ RepW K CT s w v ∧ RepW K CT s u v' := by
  obtain ⟨v, vs', rfl, h2, h3⟩ := r
  obtain ⟨v', rfl, h4⟩ := rep1 h3
  exact ⟨v, v', rfl, h2, h4⟩

def lenOf (S : Store) : W → Option Nat
  | .val (.str z) => if z.length ≤ 1000000 then some z.length else none
  | .val (.tup ps) => some ps.length
  | w => (seqW S w).map List.length
def lenW : List W → Store → RE W
  | [w], S => orBad ((lenOf S w).map fun (n : Nat) => W.val (.int (n : Int))) S
  | _, _ => .bad
theorem cz_len {K : PySem.W.Frag} : CallZ K CT (fun xs H Q => ∃ x n, xs = [x] ∧ LenV K x H n ∧ Q (.int n) H) lenW := fun s S H ws vs Q EX gd r h => by
  unfold lenW at h
  split at h
  · rename_i w
    obtain ⟨v, rfl, rw⟩ := rep1 r
    obtain ⟨k, e, h⟩ := RG.orBad h
    simp only [Option.map_eq_some_iff] at e
    obtain ⟨n, e, rfl⟩ := e
    refine ⟨v, n, rfl, ?_, RG.here h gd rfl⟩
    unfold lenOf at e
    split at e
    · rename_i z
      split at e
      · rename_i c
        cases e
        rw [show v = _ from rw]
        exact ⟨sz6 c, rfl⟩
      · cases e
    · rename_i ps
      cases e
      obtain ⟨a, vs, rfl, h1, h2⟩ := rw
      exact .inr ⟨vs, gd.exF.st h1, h2.length.symm⟩
    · simp only [Option.map_eq_some_iff] at e
      obtain ⟨ws, e, rfl⟩ := e
      obtain ⟨a, vs, rfl, h1, h2⟩ := seqW_ok gd rw e
      exact .inl ⟨vs, h1, h2.length.symm⟩
  · exact h.elim
theorem pz_len (hg : Gl X "len") (hm : X.mg "len" = none) (ha : PZA X CT U [a] ga) (he : starEach [a] X.env = (false, eval a X.env) :: starEach [] X.env := by rfl) : PZ X CT U (.Call (.Name "len" p) [a] [] pos) (eCB lenW ga) :=
  pz_callB call_len cz_len hg hm PySem.boot_len ha (by decide) (by decide) he rfl
def absW : List W → Store → RE W
  | [.val (.int i)], S => .ok (.val (.int (if i < 0 then -i else i))) S
  | _, _ => .bad
theorem cz_abs {K : PySem.W.Frag} : CallZ K CT (fun xs H Q => ∃ i, xs = [.int i] ∧ Q (.int (if i < 0 then -i else i)) H) absW := fun s S H ws vs Q EX gd r h => by
  unfold absW at h
  split at h
  · rename_i i
    obtain ⟨v, rfl, rw⟩ := rep1 r
    exact ⟨i, by rw [show v = _ from rw], RG.here h gd rfl⟩
  · exact h.elim
theorem pz_abs (hg : Gl X "abs") (hm : X.mg "abs" = none) (ha : PZA X CT U [a] ga) (he : starEach [a] X.env = (false, eval a X.env) :: starEach [] X.env := by rfl) : PZ X CT U (.Call (.Name "abs" p) [a] [] pos) (eCB absW ga) :=
  pz_callB call_abs cz_abs hg hm (by decide +kernel) ha (by decide) (by decide) he rfl
/-- int(number), int(flag) -/
def intW : List W → Store → RE W
  | [.val (.int i)], S => .ok (.val (.int i)) S
  | [.val (.bl b)], S => .ok (.val (.int (if b = true then 1 else 0))) S
  | _, _ => .bad
theorem cz_int {K : PySem.W.Frag} : CallZ K CT (fun xs H Q => (∃ i, xs = [.int i] ∧ Q (.int i) H) ∨ ∃ k, xs = [.bl k] ∧ Q (.int (if k then 1 else 0)) H) intW := fun s S H ws vs Q EX gd r h => by
  unfold intW at h
  split at h
  · rename_i i
    obtain ⟨v, rfl, rw⟩ := rep1 r
    exact .inl ⟨i, by rw [show v = _ from rw], RG.here h gd rfl⟩
  · rename_i i
    obtain ⟨v, rfl, rw⟩ := rep1 r
    exact .inr ⟨i, by rw [show v = _ from rw], RG.here h gd rfl⟩
  · exact h.elim
theorem pz_int1 (hg : Gl X "int") (hm : X.mg "int" = none) (ha : PZA X CT U [a] ga) (he : starEach [a] X.env = (false, eval a X.env) :: starEach [] X.env := by rfl) : PZ X CT U (.Call (.Name "int" p) [a] [] pos) (eCB intW ga) :=
  pz_callTy call_int1 cz_int hg hm (by decide +kernel) ha (by decide) (by decide) he rfl
def max2W : List W → Store → RE W
  | [.val (.int i), .val (.int j)], S => .ok (.val (.int (if j > i then j else i))) S
  | _, _ => .bad
def min2W : List W → Store → RE W
  | [.val (.int i), .val (.int j)], S => .ok (.val (.int (if j < i then j else i))) S
  | _, _ => .bad
theorem cz_max2 {K : PySem.W.Frag} : CallZ K CT (fun xs H Q => ∃ i j, xs = [.int i, .int j] ∧ Q (.int (if j > i then j else i)) H) max2W := fun s S H ws vs Q EX gd r h => by
  unfold max2W at h
  split at h
  · rename_i i j
    obtain ⟨v, v', rfl, r1, r2⟩ := rep2 r
    exact ⟨i, j, by rw [show v = _ from r1, show v' = _ from r2], RG.here h gd rfl⟩
  · exact h.elim
theorem cz_min2 {K : PySem.W.Frag} : CallZ K CT (fun xs H Q => ∃ i j, xs = [.int i, .int j] ∧ Q (.int (if j < i then j else i)) H) min2W := fun s S H ws vs Q EX gd r h => by
  unfold min2W at h
  split at h
  · rename_i i j
    obtain ⟨v, v', rfl, r1, r2⟩ := rep2 r
    exact ⟨i, j, by rw [show v = _ from r1, show v' = _ from r2], RG.here h gd rfl⟩
  · exact h.elim
theorem pz_max2 (hc : X.calm = true) (hg : Gl X "max") (hm : X.mg "max" = none) (ha : PZA X CT U [a, b] ga) (he : starEach [a, b] X.env = (false, eval a X.env) :: starEach [b] X.env := by rfl) (hpl : (backTo pos (starEach [b] X.env)).any (·.1) = false := by rfl) : PZ X CT U (.Call (.Name "max" p) [a, b] [] pos) (eCB max2W ga) :=
  pz_callB (call_max2 hc) cz_max2 hg hm (by decide +kernel) ha (by decide) (by decide) he hpl
theorem pz_min2 (hc : X.calm = true) (hg : Gl X "min") (hm : X.mg "min" = none) (ha : PZA X CT U [a, b] ga) (he : starEach [a, b] X.env = (false, eval a X.env) :: starEach [b] X.env := by rfl) (hpl : (backTo pos (starEach [b] X.env)).any (·.1) = false := by rfl) : PZ X CT U (.Call (.Name "min" p) [a, b] [] pos) (eCB min2W ga) :=
  pz_callB (call_min2 hc) cz_min2 hg hm (by decide +kernel) ha (by decide) (by decide) he hpl
/-! sum(list of ints), all(list of bools), any -/
def intsOf : List P → Option (List Int)
  | [] => some []
  | .int i :: ps => (intsOf ps).map (i :: ·)
  | _ :: _ => none
def boolsOf : List P → Option (List Bool)
  | [] => some []
  | .bl i :: ps => (boolsOf ps).map (i :: ·)
  | _ :: _ => none
theorem intsOf_ok {K : PySem.W.Frag} {F : Hp} : ∀ {ps : List P} {vs : List V} {ns : List Int}, intsOf ps = some ns → RepL K CT F ps vs → vs = ns.map V.int
  | [], _, _, e, h => by cases e; exact h
  | p :: ps, _, _, e, ⟨v, vs', h1, h2, h3⟩ => by
    cases p with
    | int i =>
      simp only [intsOf, Option.map_eq_some_iff] at e
      obtain ⟨ns, e, rfl⟩ := e
      rw [h1, show v = _ from h2, intsOf_ok e h3, List.map_cons]
    | _ => cases e
theorem boolsOf_ok {K : PySem.W.Frag} {F : Hp} : ∀ {ps : List P} {vs : List V} {ns : List Bool}, boolsOf ps = some ns → RepL K CT F ps vs → vs = ns.map V.bl
  | [], _, _, e, h => by cases e; exact h
  | p :: ps, _, _, e, ⟨v, vs', h1, h2, h3⟩ => by
    cases p with
    | bl i =>
      simp only [boolsOf, Option.map_eq_some_iff] at e
      obtain ⟨ns, e, rfl⟩ := e
      rw [h1, show v = _ from h2, boolsOf_ok e h3, List.map_cons]
    | _ => cases e
def sumW : List W → Store → RE W
  | [w], S => match pOf S w with
    | some (.lst ps) => orBad ((intsOf ps).map fun ns => .val (.int ns.sum)) S
    | _ => .bad
  | _, _ => .bad
def allW (every : Bool) : List W → Store → RE W
  | [w], S => match pOf S w with
    | some (.lst ps) => orBad ((boolsOf ps).map fun bs => .val (.bl (if every = true then bs.all id else bs.any id))) S
    | _ => .bad
  | _, _ => .bad
theorem cz_sum {K : PySem.W.Frag} : CallZ K CT (rSum K) sumW := fun s S H ws vs Q EX gd r h => by
  unfold sumW at h
  split at h
  · rename_i w
    obtain ⟨v, rfl, rw⟩ := rep1 r
    split at h
    · rename_i ps e
      obtain ⟨a, vs, rfl, h1, h2⟩ := (pOf_ok gd rw e).lst gd
      obtain ⟨k, e, h⟩ := RG.orBad h
      simp only [Option.map_eq_some_iff] at e
      obtain ⟨ns, e, rfl⟩ := e
      have e2 := intsOf_ok e h2
      subst e2
      exact ⟨a, ns, rfl, SqL.of h1, RG.here h gd rfl⟩
    · exact h.elim
  · exact h.elim
theorem cz_all {K : PySem.W.Frag} : CallZ K CT (rAll K) (allW true) := fun s S H ws vs Q EX gd r h => by
  unfold allW at h
  split at h
  · rename_i w
    obtain ⟨v, rfl, rw⟩ := rep1 r
    split at h
    · rename_i ps e
      obtain ⟨a, vs, rfl, h1, h2⟩ := (pOf_ok gd rw e).lst gd
      obtain ⟨k, e, h⟩ := RG.orBad h
      simp only [Option.map_eq_some_iff] at e
      obtain ⟨ns, e, rfl⟩ := e
      have e2 := boolsOf_ok e h2
      subst e2
      exact ⟨a, ns, rfl, SqL.of h1, RG.here h gd rfl⟩
    · exact h.elim
  · exact h.elim
theorem cz_any {K : PySem.W.Frag} : CallZ K CT (rAny K) (allW false) := fun s S H ws vs Q EX gd r h => by
  unfold allW at h
  split at h
  · rename_i w
    obtain ⟨v, rfl, rw⟩ := rep1 r
    split at h
    · rename_i ps e
      obtain ⟨a, vs, rfl, h1, h2⟩ := (pOf_ok gd rw e).lst gd
      obtain ⟨k, e, h⟩ := RG.orBad h
      simp only [Option.map_eq_some_iff] at e
      obtain ⟨ns, e, rfl⟩ := e
      have e2 := boolsOf_ok e h2
      subst e2
      exact ⟨a, ns, rfl, SqL.of h1, RG.here h gd rfl⟩
    · exact h.elim
  · exact h.elim
theorem pz_sum (hc : X.calm = true) (hg : Gl X "sum") (hm : X.mg "sum" = none) (ha : PZA X CT U [a] ga) (he : starEach [a] X.env = (false, eval a X.env) :: starEach [] X.env := by rfl) : PZ X CT U (.Call (.Name "sum" p) [a] [] pos) (eCB sumW ga) :=
  pz_callB (cr_sum hc) cz_sum hg hm (by decide +kernel) ha (by decide) (by decide) he rfl
theorem pz_all (hc : X.calm = true) (hg : Gl X "all") (hm : X.mg "all" = none) (ha : PZA X CT U [a] ga) (he : starEach [a] X.env = (false, eval a X.env) :: starEach [] X.env := by rfl) : PZ X CT U (.Call (.Name "all" p) [a] [] pos) (eCB (allW true) ga) :=
  pz_callB (cr_all hc) cz_all hg hm (by decide +kernel) ha (by decide) (by decide) he rfl
theorem pz_any (hc : X.calm = true) (hg : Gl X "any") (hm : X.mg "any" = none) (ha : PZA X CT U [a] ga) (he : starEach [a] X.env = (false, eval a X.env) :: starEach [] X.env := by rfl) : PZ X CT U (.Call (.Name "any" p) [a] [] pos) (eCB (allW false) ga) :=
  pz_callB (cr_any hc) cz_any hg hm (by decide +kernel) ha (by decide) (by decide) he rfl
end
end Z
end
-- part Z4
section
set_option Elab.async false
set_option linter.all false
set_option maxRecDepth 100000
set_option autoImplicit false
namespace Z
open PySem PySem.Spec PyProof.Rows L2

/-! ### targets -/
inductive Tg where
  | nm (i : Nat) | tp (ts : List Tg)
mutual
def tgG (K : PySem.W.Frag) : Tg → TG
  | .nm i => gName i
  | .tp ts => gTup K ts.length (tgGs K ts)
def tgGs (K : PySem.W.Frag) : List Tg → TGs
  | [] => gNil
  | t :: ts => gCons (tgG K t) (tgGs K ts)
end
mutual
def bindT : Tg → P → Env → Option Env
  | .nm i, p, ρ => some (ρ.set i (some (.val p)))
  | .tp ts, .tup ps, ρ => bindTs ts ps ρ
  | .tp _, _, _ => none
def bindTs : List Tg → List P → Env → Option Env
  | [], [], ρ => some ρ
  | t :: ts, p :: ps, ρ => (bindT t p ρ).bind (bindTs ts ps)
  | _, _, _ => none
end
mutual
def slots : Tg → List Nat
  | .nm i => [i]
  | .tp ts => slotss ts
def slotss : List Tg → List Nat
  | [] => []
  | t :: ts => slots t ++ slotss ts
end
def wipeE (ρ : Env) : List Nat → Env
  | [] => ρ
  | v :: vs => (wipeE ρ vs).set v none
section
variable {K : PySem.W.Frag} {CT : CTb} {s : Fs} {H : Hp}
theorem EnvOk.wipe {ρ : Env} {σ : L2.St} (e : EnvOk K CT s ρ σ) : ∀ vs : List Nat, EnvOk K CT s (wipeE ρ vs) (L2.wipe σ vs)
  | [] => e
  | v :: vs => (EnvOk.wipe e vs).unset none
theorem wipe_get (σ : L2.St) (k : Nat) : ∀ vs : List Nat, (L2.wipe σ vs)[k]? = if k ∈ vs ∧ k < σ.length then some none else σ[k]?
  | [] => by simp [L2.wipe]
  | v :: vs => by
    unfold L2.wipe
    rw [List.getElem?_set, wipe_get σ k vs, wipe_length]
    by_cases e : v = k
    · subst e
      by_cases l : v < σ.length
      · simp [l]
      · simp [l, List.getElem?_eq_none (Nat.le_of_not_lt l)]
    · have e' : ¬ k = v := fun z => e z.symm
      simp [e, e']
theorem wipe_set {σ : L2.St} {i : Nat} {x : Option V} {vs : List Nat} (h : i ∈ vs) : L2.wipe (σ.set i x) vs = L2.wipe σ vs := by
  apply List.ext_getElem?
  intro k
  rw [wipe_get, wipe_get, List.length_set, List.getElem?_set]
  by_cases e : i = k
  · subst e
    by_cases l : i < σ.length
    · simp [h, l]
    · simp [l, List.getElem?_eq_none (Nat.le_of_not_lt l)]
  · simp [e]
theorem bindTs_len : ∀ {ts : List Tg} {ps : List P} {ρ ρ' : Env}, bindTs ts ps ρ = some ρ' → ps.length = ts.length
  | [], [], _, _, _ => rfl
  | [], _ :: _, _, _, e => by simp [bindTs] at e
  | _ :: _, [], _, _, e => by simp [bindTs] at e
  | t :: ts, p :: ps, ρ, ρ', e => by
    simp only [bindTs, Option.bind_eq_some_iff] at e
    obtain ⟨ρ1, e1, e2⟩ := e
    rw [List.length_cons, List.length_cons, bindTs_len e2]
mutual
theorem bind_ok : ∀ (t : Tg) {p : P} {x : V} {ρ ρ' : Env} {σ : L2.St} {Q : L2.St → Hp → Prop}, Ex s.F H → RepP K CT s.F p x → EnvOk K CT s ρ σ → bindT t p ρ = some ρ' →
    (∀ σ', EnvOk K CT s ρ' σ' → (∀ vs, (∀ i ∈ slots t, i ∈ vs) → L2.wipe σ' vs = L2.wipe σ vs) → Q σ' H) → tgG K t x σ H Q
  | .nm i, p, x, ρ, ρ', σ, Q, eF, r, en, e, h => by
    cases e
    exact h _ (en.set r) (fun vs hv => wipe_set (hv i (by simp [slots])))
  | .tp ts, p, x, ρ, ρ', σ, Q, eF, r, en, e, h => by
    cases p with
    | tup ps =>
      obtain ⟨a, vs, rfl, h1, h2⟩ := r
      exact ⟨a, vs, rfl, eF.st h1, by rw [h2.length]; exact bindTs_len e, bind_oks ts eF h2 en e (fun σ' e' w => h σ' e' w)⟩
    | _ => cases e
theorem bind_oks : ∀ (ts : List Tg) {ps : List P} {xs : List V} {ρ ρ' : Env} {σ : L2.St} {Q : L2.St → Hp → Prop}, Ex s.F H → RepL K CT s.F ps xs → EnvOk K CT s ρ σ → bindTs ts ps ρ = some ρ' →
    (∀ σ', EnvOk K CT s ρ' σ' → (∀ vs, (∀ i ∈ slotss ts, i ∈ vs) → L2.wipe σ' vs = L2.wipe σ vs) → Q σ' H) → tgGs K ts xs σ H Q
  | [], ps, xs, ρ, ρ', σ, Q, eF, r, en, e, h => by
    cases ps with
    | nil =>
      cases e
      have r' := show xs = [] from r
      subst r'
      exact ⟨rfl, h σ en (fun _ _ => rfl)⟩
    | cons p ps => cases e
  | t :: ts, ps, xs, ρ, ρ', σ, Q, eF, r, en, e, h => by
    cases ps with
    | nil => cases e
    | cons p ps =>
      obtain ⟨v, vs, rfl, h2, h3⟩ := r
      simp only [bindTs, Option.bind_eq_some_iff] at e
      obtain ⟨ρ1, e1, e2⟩ := e
      refine ⟨v, vs, rfl, bind_ok t (Q := fun σ' H' => tgGs K ts vs σ' H' Q) eF h2 en e1 fun σ1 en1 w1 => ?_⟩
      exact bind_oks ts eF h3 en1 e2 fun σ2 en2 w2 => h σ2 en2 fun us hu => by
        rw [w2 us fun i hi => hu i (by simp [slotss, hi]), w1 us fun i hi => hu i (by simp [slotss, hi])]
end
end

/-! ### what is walked -/
def WalkP (K : PySem.W.Frag) (CT : CTb) (F : Hp) (ps : List P) (J : It) : Prop := ∃ (G : Hp → Prop) (Y : Nat → Hp → V → Hp → Prop), Walk J ps.length G Y ∧ (∀ H, Ex F H → G H) ∧
  ∀ i H x H', i < ps.length → Ex F H → Y i H x H' → ∃ p, ps[i]? = some p ∧ ((H' = H ∧ RepP K CT F p x) ∨ ∃ T o, H T = none ∧ H' = upd H T o ∧ ∀ F', Ex F F' → F' T = some o → RepP K CT F' p x)
abbrev FI := FE (List P)
def canI (K : PySem.W.Frag) (CT : CTb) (U : WX) (f : FI) : TI := fun σ H Rr => ∃ s S ρ, Gd K CT s S H ∧ EnvOk K CT s ρ σ ∧ RG K CT (fun s' ps J => WalkP K CT s'.F ps J) s (f ρ S) Rr (fun c d H' => U c d σ H')
abbrev PZI (X : Cx) (CT : CTb) (U : WX) (tg e : Expr) (f : FI) : Prop := PI X tg e (canI X.K CT U f)
theorem weakI {X : Cx} {tg e : Expr} {t t' : TI} (h : PI X tg e t) (w : ∀ σ H Q, t' σ H Q → t σ H Q) : PI X tg e t' := ⟨fun pins s σ H Q I q => h.run pins s σ H Q I (w σ H Q q)⟩
theorem PI.or {X : Cx} {tg e : Expr} {t t' : TI} (h : PI X tg e t) (h' : PI X tg e t') : PI X tg e (fun σ H Q => t σ H Q ∨ t' σ H Q) := ⟨fun pins s σ H Q I q => by
  rcases q with q | q
  · exact h.run pins s σ H Q I q
  · exact h'.run pins s σ H Q I q⟩
def itemsW (w : W) (S : Store) : RE (List P) := match w with
  | .val (.tup ps) => .ok ps S
  | .val (.str z) => .ok (z.cps.toList.map fun c => .str ⟨#[c]⟩) S
  | .val (.scr ns) => .ok (ns.map .int) S
  | w => match frz1 S w with
    | some (.lst ps, S') => .ok ps S'
    | _ => .bad
def iSeq (f : FE W) : FI := fun ρ S => (f ρ S).bind itemsW
section
variable {K : PySem.W.Frag} {CT : CTb} {F : Hp}
theorem walkL {a : Addr} {vs : List V} {ps : List P} (h : ∀ H, Ex F H → SqL K H a vs) (r : RepL K CT F ps vs) : WalkP K CT F ps (Itl K a) := by
  refine ⟨_, _, by rw [← r.length]; exact walk_list (a := a) (xs := vs), h, fun i H x H' hi e y => ?_⟩
  obtain ⟨rfl, y⟩ := y
  obtain ⟨p, h1, h2⟩ := r.get y
  exact ⟨p, h1, .inl ⟨rfl, h2⟩⟩
theorem walkT {a : Addr} {vs : List V} {ps : List P} (h : SqT K F a vs) (r : RepL K CT F ps vs) : WalkP K CT F ps (Itt K a) := by
  refine ⟨_, _, by rw [← r.length]; exact walk_tup (a := a) (xs := vs), fun H e => e.st h, fun i H x H' hi e y => ?_⟩
  obtain ⟨rfl, y⟩ := y
  obtain ⟨p, h1, h2⟩ := r.get y
  exact ⟨p, h1, .inl ⟨rfl, h2⟩⟩
theorem walkS {z : Str} : WalkP K CT F (z.cps.toList.map fun c => P.str ⟨#[c]⟩) (Its z) := by
  refine ⟨_, _, by rw [List.length_map, Array.length_toList]; exact walk_str (z := z), fun _ _ => trivial, fun i H x H' hi e y => ?_⟩
  obtain ⟨rfl, c, h1, rfl⟩ := y
  exact ⟨.str ⟨#[c]⟩, by rw [List.getElem?_map, Array.getElem?_toList, h1]; rfl, .inl ⟨rfl, rfl⟩⟩
theorem scr_rep : ∀ {ns : List Int}, RepL K CT F (ns.map P.int) (ns.map V.int)
  | [] => rfl
  | n :: ns => ⟨_, _, rfl, rfl, scr_rep⟩
end
section
variable {X : Cx} {CT : CTb} {U : WX} {tg e : Expr} {fe : FE W} {fi : FI} {pos : Pos}
theorem zi_seq (ha : PZ X CT U e fe) : PZI X CT U tg e (iSeq fe) := weakI (PI.or (pi_list ha) (PI.or (pi_tup ha) (pi_str ha))) fun σ H Rr ⟨s, S, ρ, gd, en, h⟩ => by
  unfold iSeq at h
  cases er : fe ρ S with
  | bad => rw [er] at h; exact h.elim
  | ex x S1 => rw [er] at h; exact .inl ⟨s, S, ρ, gd, en, by rw [er]; exact h⟩
  | ok w S1 =>
    have h' := h
    rw [er] at h'
    have fin : ∀ {w0 : W}, w = w0 → (itemsW w0 S1 = (match frz1 S1 w0 with | some (.lst ps, S') => .ok ps S' | _ => .bad)) → iList X.K (canE X.K CT U fe) σ H Rr := by
      rintro _ rfl hi
      refine ⟨s, S, ρ, gd, en, ?_⟩
      rw [er]
      intro s1 H1 v x1 g1 r1
      have h2 : RG X.K CT (fun s' ps J => WalkP X.K CT s'.F ps J) s1 (itemsW w S1) Rr _ := RG.ext x1 h'
      rw [hi] at h2
      cases ef : frz1 S1 w with
      | none => rw [ef] at h2; exact h2.elim
      | some q =>
        obtain ⟨p, S2⟩ := q
        rw [ef] at h2
        cases p with
        | lst ps =>
          obtain ⟨s2, x2, g2, r2⟩ := frz1_ok g1 r1 ef
          obtain ⟨a, vs, rfl, q1, q2⟩ := r2
          exact ⟨a, rfl, ⟨vs, SqL.of (g2.exF _ _ q1)⟩, h2 s2 H1 _ x2 g2 (walkL (fun H e => SqL.of (e _ _ q1)) q2)⟩
        | _ => exact h2.elim
    cases w with
    | loc n => exact .inl (fin rfl rfl)
    | val p =>
      cases p with
      | tup ps =>
        refine .inr (.inl ⟨s, S, ρ, gd, en, ?_⟩)
        rw [er]
        intro s1 H1 v x1 g1 r1
        have h2 : RG X.K CT (fun s' ps J => WalkP X.K CT s'.F ps J) s1 (.ok ps S1) Rr _ := RG.ext x1 h'
        obtain ⟨a, vs, rfl, q1, q2⟩ := r1
        exact ⟨a, rfl, ⟨vs, g1.exF.st q1⟩, RG.here h2 g1 (walkT q1 q2)⟩
      | str z =>
        refine .inr (.inr ⟨s, S, ρ, gd, en, ?_⟩)
        rw [er]
        intro s1 H1 v x1 g1 r1
        have h2 : RG X.K CT (fun s' ps J => WalkP X.K CT s'.F ps J) s1 (.ok _ S1) Rr _ := RG.ext x1 h'
        exact ⟨z, r1, RG.here h2 g1 walkS⟩
      | scr ns =>
        refine .inl ⟨s, S, ρ, gd, en, ?_⟩
        rw [er]
        intro s1 H1 v x1 g1 r1
        have h2 : RG X.K CT (fun s' ps J => WalkP X.K CT s'.F ps J) s1 (.ok _ S1) Rr _ := RG.ext x1 h'
        obtain ⟨a, rfl, q1⟩ := r1
        exact ⟨a, rfl, ⟨_, g1.exF.sl q1⟩, RG.here h2 g1 (walkL (fun H e => e.sl q1) scr_rep)⟩
      | lst ps => exact .inl (fin rfl rfl)
      | _ => exact h'.elim
/-! range, zip -/
def rngOk (i j : Int) : Bool := decide (-(2 ^ 62) ≤ i) && decide (i < 2 ^ 62) && decide (-(2 ^ 62) ≤ j) && decide (j < 2 ^ 62)
def rngP (lo : Int) (n : Nat) : List P := (List.range n).map fun (k : Nat) => P.int (lo + (k : Int))
theorem walkR {K : PySem.W.Frag} {F : Hp} {lo : Int} {n : Nat} : WalkP K CT F (rngP lo n) (Itr lo n) := by
  refine ⟨_, _, by unfold rngP; rw [List.length_map, List.length_range]; exact walk_range, fun _ _ => trivial, fun i H x H' hi e y => ?_⟩
  obtain ⟨rfl, rfl⟩ := y
  unfold rngP at hi ⊢
  rw [List.length_map, List.length_range] at hi
  exact ⟨.int (lo + i), by rw [List.getElem?_map, List.getElem?_range hi]; rfl, .inl ⟨rfl, rfl⟩⟩
def iRange1 (fa : FE (List W)) : FI := fun ρ S => (fa ρ S).bind fun ws S1 => match ws with
  | [.val (.int j)] => if rngOk 0 j = true then .ok (rngP 0 j.toNat) S1 else .bad
  | _ => .bad
def iRange2 (fa : FE (List W)) : FI := fun ρ S => (fa ρ S).bind fun ws S1 => match ws with
  | [.val (.int i), .val (.int j)] => if rngOk i j = true then .ok (rngP i (j - i).toNat) S1 else .bad
  | _ => .bad
variable {a b : Expr} {ga : FE (List W)} {p : Pos}
theorem zi_range1 (hg : Gl X "range") (hm : X.mg "range" = none) (ha : PZA X CT U [a] ga) (hs : starEach [a] X.env = [(false, eval a X.env)] := by rfl) : PZI X CT U tg (.Call (.Name "range" p) [a] [] pos) (iRange1 ga) := weakI (pi_range1 hg hm ha hs) fun σ H Rr ⟨s, S, ρ, gd, en, h⟩ =>
  ⟨s, S, ρ, gd, en, RG.step h fun ws S1 s1 H1 vs x1 g1 r1 h1 => by
    split at h1
    · rename_i j
      obtain ⟨v, rfl, rv⟩ := rep1 r1
      split at h1
      · rename_i c
        simp only [rngOk, Bool.and_eq_true, decide_eq_true_eq] at c
        exact ⟨j, by rw [show v = _ from rv], c.1.2, c.2, RG.here h1 g1 walkR⟩
      · exact h1.elim
    · exact h1.elim⟩
theorem zi_range2 (hg : Gl X "range") (hm : X.mg "range" = none) (ha : PZA X CT U [a, b] ga) (hs : starEach [a, b] X.env = [(false, eval a X.env), (false, eval b X.env)] := by rfl) (hs2 : starEach [b] X.env = [(false, eval b X.env)] := by rfl) :
    PZI X CT U tg (.Call (.Name "range" p) [a, b] [] pos) (iRange2 ga) := weakI (pi_range2 hg hm ha hs hs2) fun σ H Rr ⟨s, S, ρ, gd, en, h⟩ =>
  ⟨s, S, ρ, gd, en, RG.step h fun ws S1 s1 H1 vs x1 g1 r1 h1 => by
    split at h1
    · rename_i i j
      obtain ⟨v, v', rfl, rv, rv'⟩ := rep2 r1
      split at h1
      · rename_i c
        simp only [rngOk, Bool.and_eq_true, decide_eq_true_eq] at c
        exact ⟨i, j, by rw [show v = _ from rv, show v' = _ from rv'], ⟨c.1.1.1, c.1.1.2, c.1.2, c.2⟩, RG.here h1 g1 walkR⟩
      · exact h1.elim
    · exact h1.elim⟩
/-- zip of two lists (what is walked is frozen) -/
def iZip (fa : FE (List W)) : FI := fun ρ S => (fa ρ S).bind fun ws S1 => (doFrzs ws S1).bind fun ps S2 => match ps with
  | [.lst xs, .lst ys] => .ok ((xs.zip ys).map fun q => .tup [q.1, q.2]) S2
  | _ => .bad
theorem pair_rep {K : PySem.W.Frag} {F : Hp} {T : Addr} {p q : P} {x z : V} (f : F T = some (.tup [x, z])) (h1 : RepP K CT F p x) (h2 : RepP K CT F q z) : RepP K CT F (.tup [p, q]) (.ref T) :=
  ⟨T, [x, z], rfl, .inl (.inl f), x, [z], rfl, h1, z, [], rfl, h2, rfl⟩
theorem zipw {K : PySem.W.Frag} {F : Hp} {a b : Addr} {xs ys : List V} {ps qs : List P} (h1 : F a = some (.lst xs)) (h2 : F b = some (.lst ys)) (r1 : RepL K CT F ps xs) (r2 : RepL K CT F qs ys) :
    WalkP K CT F ((ps.zip qs).map fun q => P.tup [q.1, q.2]) (Itz K a b) := by
  refine ⟨fun H => SqL K H a xs ∧ SqL K H b ys, YPair (fun i => xs[i]?) (fun i => ys[i]?), by rw [List.length_map, List.length_zip, ← r1.length, ← r2.length]; exact walk_zip (xs := xs) (ys := ys) rfl, fun H e => ⟨SqL.of (e _ _ h1), SqL.of (e _ _ h2)⟩, fun i H v H' hi e y => ?_⟩
  obtain ⟨T, x, z, rfl, hT, rfl, e1, e2⟩ := y
  obtain ⟨p, p1, p2⟩ := r1.get e1
  obtain ⟨q, q1, q2⟩ := r2.get e2
  refine ⟨.tup [p, q], ?_, .inr ⟨T, .tup [x, z], hT, rfl, fun F' e f => ?_⟩⟩
  case refine_2 => exact pair_rep f (p2.mono e) (q2.mono e)
  rw [List.getElem?_map]
  have : (ps.zip qs)[i]? = some (p, q) := by rw [List.getElem?_zip_eq_some]; exact ⟨p1, q1⟩
  rw [this]; rfl
theorem zi_zip {elts : List Expr} {kk : Nat} {tpos : Pos} (hg : Gl X "zip") (hm : X.mg "zip" = none) (ha : PZA X CT U [a, b] ga)
    (hs : starEach [a, b] X.env = (false, eval a X.env) :: starEach [b] X.env := by rfl) (hpl : (backTo pos (starEach [b] X.env)).any (·.1) = false := by rfl) : PZI X CT U (.Tuple elts kk tpos) (.Call (.Name "zip" p) [a, b] [] pos) (iZip ga) :=
  weakI (pi_zip hg hm ha hs hpl) fun σ H Rr ⟨s, S, ρ, gd, en, h⟩ => ⟨s, S, ρ, gd, en, RG.step h fun ws S1 s1 H1 vs x1 g1 r1 h1 => by
    obtain ⟨ps, S2, s2, x2, g2, r2, h2⟩ := RG.frzs g1 r1 h1
    split at h2
    · rename_i xs ys
      obtain ⟨v, _, rfl, rv, v', _, rfl, rv', e⟩ := r2
      have e := show _ = [] from e
      subst e
      obtain ⟨a1, us, rfl, f1, l1⟩ := rv
      obtain ⟨a2, us2, rfl, f2, l2⟩ := rv'
      exact ⟨a1, a2, us, us2, rfl, SqL.of (g2.exF _ _ f1), SqL.of (g2.exF _ _ f2), RG.here h2 g2 (zipw f1 f2 l1 l2)⟩
    · exact h2.elim⟩
/-- enumerate(list) -/
def iEnum (fa : FE (List W)) : FI := fun ρ S => (fa ρ S).bind fun ws S1 => (doFrzs ws S1).bind fun ps S2 => match ps with
  | [.lst xs] => .ok (((List.range xs.length).zip xs).map fun q => .tup [.int (q.1 : Int), q.2]) S2
  | _ => .bad
theorem enumw {K : PySem.W.Frag} {F : Hp} {a : Addr} {xs : List V} {ps : List P} (h1 : F a = some (.lst xs)) (r1 : RepL K CT F ps xs) :
    WalkP K CT F (((List.range ps.length).zip ps).map fun q => P.tup [.int (q.1 : Int), q.2]) (Ite K a) := by
  refine ⟨fun H => SqL K H a xs, YPair (fun i => some (.int (i : Nat))) (fun i => xs[i]?), by rw [List.length_map, List.length_zip, List.length_range, Nat.min_self, ← r1.length]; exact walk_enum (xs := xs), fun H e => SqL.of (e _ _ h1), fun i H v H' hi e y => ?_⟩
  obtain ⟨T, x, z, rfl, hT, rfl, e1, e2⟩ := y
  cases e1
  obtain ⟨p, p1, p2⟩ := r1.get e2
  refine ⟨.tup [.int (i : Nat), p], ?_, .inr ⟨T, .tup [.int (i : Nat), z], hT, rfl, fun F' e f => ?_⟩⟩
  case refine_2 => exact pair_rep f rfl (p2.mono e)
  have hl := (List.getElem?_eq_some_iff.mp p1).1
  rw [List.getElem?_map]
  have : ((List.range ps.length).zip ps)[i]? = some (i, p) := by rw [List.getElem?_zip_eq_some]; exact ⟨List.getElem?_range hl, p1⟩
  rw [this]; rfl
theorem zi_enum {elts : List Expr} {kk : Nat} {tpos : Pos} (hg : Gl X "enumerate") (hm : X.mg "enumerate" = none) (ha : PZA X CT U [a] ga) (hs : starEach [a] X.env = [(false, eval a X.env)] := by rfl) : PZI X CT U (.Tuple elts kk tpos) (.Call (.Name "enumerate" p) [a] [] pos) (iEnum ga) :=
  weakI (pi_enum hg hm ha hs) fun σ H Rr ⟨s, S, ρ, gd, en, h⟩ => ⟨s, S, ρ, gd, en, RG.step h fun ws S1 s1 H1 vs x1 g1 r1 h1 => by
    obtain ⟨ps, S2, s2, x2, g2, r2, h2⟩ := RG.frzs g1 r1 h1
    split at h2
    · rename_i xs
      obtain ⟨v, _, rfl, rv, e⟩ := r2
      have e := show _ = [] from e
      subst e
      obtain ⟨a1, us, rfl, f1, l1⟩ := rv
      exact ⟨a1, us, rfl, SqL.of (g2.exF _ _ f1), RG.here h2 g2 (enumw f1 l1)⟩
    · exact h2.elim⟩
end
end Z
end
-- part Z5
section
set_option Elab.async false
set_option linter.all false
set_option maxRecDepth 100000
set_option autoImplicit false
namespace Z
open PySem PySem.Spec PyProof.Rows L2

/-! ### comprehensions -/
theorem wipe_wipe (σ : L2.St) (vs : List Nat) : L2.wipe (L2.wipe σ vs) vs = L2.wipe σ vs := by
  apply List.ext_getElem?
  intro k
  rw [wipe_get, wipe_get, wipe_length]
  split <;> simp_all
def noEx {α : Type} (r : RE α) : RE α := match r with
  | .ex _ _ => .bad
  | r => r
def lcGo (vs : List Nat) (t : Tg) (c : FE Bool) (e : FE W) (ρ : Env) : List P → Store → RE (List P)
  | [], S => .ok [] S
  | p :: ps, S => match bindT t p (wipeE ρ vs) with
    | none => .bad
    | some ρ1 => (noEx (c ρ1 S)).bind fun b S1 => if b = true then (noEx (e ρ1 S1)).bind fun w S2 => (doFrz w S2).bind fun q S3 => (lcGo vs t c e ρ ps S3).bind fun qs S4 => .ok (q :: qs) S4
      else lcGo vs t c e ρ ps S1
def eLc (fi : FI) (vs : List Nat) (t : Tg) (c : FE Bool) (e : FE W) : FE W := fun ρ S => (fi ρ S).bind fun ps S1 => if ps.length ≤ 100000 then (lcGo vs t c e ρ ps S1).bind fun qs S2 => .ok (.val (.lst qs)) S2 else .bad
def cYes : FE Bool := fun _ S => .ok true S
def U0 : WX := fun _ _ _ _ => False
section
variable {K : PySem.W.Frag} {CT : CTb} {s : Fs} {S : Store} {H : Hp}
theorem RE.bind_bind {α β γ : Type} (r : RE α) (f : α → Store → RE β) (g : β → Store → RE γ) : (r.bind f).bind g = r.bind fun a S => (f a S).bind g := by cases r <;> rfl
theorem RE.ite_bind {α β : Type} {c : Prop} [Decidable c] (a b : RE α) (f : α → Store → RE β) : (if c then a else b).bind f = if c then a.bind f else b.bind f := by split <;> rfl
/-- run a part under another frame -/
theorem RG.runN {α β γ δ : Type} {Ra : Fs → α → γ → Prop} {Rb : Fs → β → δ → Prop} {s0 : Fs} {r : RE α} {k : α → Store → RE β} {Q : δ → Hp → Prop} {EX : Value → Option Addr → Hp → Prop} {Q1 : γ → Hp → Prop}
    (h : RG K CT Rb s ((noEx r).bind k) Q EX) (hk : ∀ a S1 s1 H1 b, r = .ok a S1 → Ext s0 s1 → Gd K CT s1 S1 H1 → Ra s1 a b → RG K CT Rb s (k a S1) Q EX → Q1 b H1) : RG K CT Ra s0 r Q1 (fun _ _ _ => False) := by
  cases r with
  | ok a S => exact fun s2 H2 b x g q => hk a S s2 H2 b rfl x g q h
  | ex x S => exact h.elim
  | bad => exact h.elim
/-- the frame with one more object -/
def Fs.fr (s : Fs) (D : Addr) (o : HO) : Fs := { s with G := upd s.G D o }
theorem Ext.unfr {s s' : Fs} {D : Addr} {o : HO} (x : Ext (s.fr D o) s') (hD : s.G D = none) (hF : s.F D = none) : Ext s { s' with G := s.G } ∧ s' = Fs.fr { s' with G := s.G } D o := by
  have e := x.g
  refine ⟨⟨rfl, x.f, x.m, fun a h1 h2 => x.new a h1 ?_⟩, ?_⟩
  · show upd s.G D o a ≠ none
    by_cases q : a = D
    · subst q; rw [upd_same]; simp
    · rw [upd_ne q]; exact h2
  · cases s'; simp only [Fs.fr] at e ⊢; rw [e]
theorem Ext.unfr2 {s s' : Fs} {D : Addr} {o : HO} (x : Ext (s.fr D o) s') (hD : s.G D = none) (hF : s.F D = none) : ∃ s2, s' = Fs.fr s2 D o ∧ Ext s s2 ∧ s2.F D = none := by
  obtain ⟨x1, e⟩ := x.unfr hD hF
  refine ⟨_, e, x1, x.new D hF (by show upd s.G D o D ≠ none; rw [upd_same]; simp)⟩
theorem RepWs.reG {G' : Hp} : ∀ {ws : List W} {vs : List V}, RepWs K CT s ws vs → RepWs K CT { s with G := G' } ws vs
  | [], _, h => h
  | .val p :: ws, _, ⟨v, vs', h1, h2, h3⟩ => ⟨v, vs', h1, h2, RepWs.reG h3⟩
  | .loc n :: ws, _, ⟨v, vs', h1, h2, h3⟩ => ⟨v, vs', h1, h2, RepWs.reG h3⟩
theorem RepW.reG {G' : Hp} {w : W} {v : V} (h : RepW K CT s w v) : RepW K CT { s with G := G' } w v := by
  cases w <;> exact h
theorem EnvOk.reG {G' : Hp} {ρ : Env} {σ : L2.St} (h : EnvOk K CT s ρ σ) : EnvOk K CT { s with G := G' } ρ σ := ⟨h.len, fun i w q => let ⟨v, h1, h2⟩ := h.get i w q; ⟨v, h1, h2.reG⟩⟩
theorem Gd.reG (g : Gd K CT s S H) {G' : Hp} (e : Ex G' H) (hl : ∀ (n : Nat) (c : Cell) (a : Addr), S[n]? = some c → s.m[n]? = some a → live c → G' a = none) (ht : ∀ P ∈ CT.tabs, G' P = none) : Gd K CT { s with G := G' } S H := by
  refine ⟨g.exF, e, g.len, fun n c a h1 h2 => ?_, g.inj, g.tab, g.notF, ht⟩
  have q := g.cells n c a h1 h2
  cases c with
  | lst ws => obtain ⟨q1, q2, vs, q3, q4⟩ := q; exact ⟨q1, hl n _ a h1 h2 trivial, vs, q3, q4.reG⟩
  | ins c ns ws => obtain ⟨q1, q2, dx, vs, q3, ql, q4⟩ := q; exact ⟨q1, hl n _ a h1 h2 trivial, dx, vs, q3, ql, q4.reG⟩
  | frz p => exact q
theorem Gd.liveAt (g : Gd K CT s S H) {n : Nat} {c : Cell} {a : Addr} (h1 : S[n]? = some c) (h2 : s.m[n]? = some a) (hl : live c) : s.F a = none ∧ s.G a = none ∧ H a ≠ none := by
  have q := g.cells n c a h1 h2
  cases c with
  | lst ws => obtain ⟨q1, q2, vs, q3, q4⟩ := q; exact ⟨q1, q2, by rw [q3]; simp⟩
  | ins c ns ws => obtain ⟨q1, q2, dx, vs, q3, ql, q4⟩ := q; exact ⟨q1, q2, by rw [q3]; simp⟩
  | frz p => exact hl.elim
/-- the heap changes at D, which the state does not know -/
theorem Gd.other (g : Gd K CT s S H) {D : Addr} {o : HO} (hF : s.F D = none) (hG : s.G D = none) (hl : ∀ (n : Nat) (c : Cell) (a : Addr), S[n]? = some c → s.m[n]? = some a → live c → a ≠ D) (hD : ∀ P ∈ CT.tabs, P ≠ D) : Gd K CT s S (upd H D o) := by
  refine ⟨Ex.mut g.exF hF, Ex.mut g.exG hG, g.len, fun n c a h1 h2 => ?_, g.inj, fun P hP => by
    obtain ⟨ps, h1, h2⟩ := g.tab P hP
    exact ⟨ps, by rw [upd_ne (hD P hP)]; exact h1, h2⟩, g.notF, g.notG⟩
  have q := g.cells n c a h1 h2
  cases c with
  | lst ws => obtain ⟨q1, q2, vs, q3, q4⟩ := q; exact ⟨q1, q2, vs, by rw [upd_ne (hl n _ a h1 h2 trivial)]; exact q3, q4⟩
  | ins c ns ws => obtain ⟨q1, q2, dx, vs, q3, ql, q4⟩ := q; exact ⟨q1, q2, dx, vs, by rw [upd_ne (hl n _ a h1 h2 trivial)]; exact q3, ql, q4⟩
  | frz p => exact q
/-- from now on D, which is known to nobody, holds o, and no part may touch it -/
theorem Gd.setFr (g : Gd K CT s S H) {D : Addr} {o : HO} (hF : s.F D = none) (hG : s.G D = none) (hl : ∀ (n : Nat) (c : Cell) (a : Addr), S[n]? = some c → s.m[n]? = some a → live c → a ≠ D) (hD : ∀ P ∈ CT.tabs, P ≠ D) : Gd K CT (s.fr D o) S (upd H D o) :=
  (g.other (o := o) hF hG hl hD).reG (by
    intro a u e
    by_cases q : a = D
    · subst q; rw [upd_same] at e ⊢; exact e
    · rw [upd_ne q] at e ⊢; exact g.exG a u e) (fun n c a h1 h2 l => by
    rw [upd_ne (hl n c a h1 h2 l)]; exact (g.liveAt h1 h2 l).2.1) fun P hP => by
    rw [upd_ne (hD P hP)]; exact g.notG P hP
theorem Gd.frTab {D : Addr} {o : HO} (g : Gd K CT (s.fr D o) S H) : ∀ P ∈ CT.tabs, P ≠ D := fun P hP z => by
  have := g.notG P hP
  rw [z, show (s.fr D o).G D = _ from upd_same] at this
  cases this
theorem Gd.neTab (g : Gd K CT s S H) {D : Addr} (hD : H D = none) : ∀ P ∈ CT.tabs, P ≠ D := fun P hP z => tab_ne (g.tab P hP) (by rw [z]; exact hD)
theorem Gd.ofFr {D : Addr} {o : HO} (g : Gd K CT (s.fr D o) S H) (hG : s.G D = none) : Gd K CT s S H ∧ H D = some o ∧ ∀ (n : Nat) (c : Cell) (a : Addr), S[n]? = some c → s.m[n]? = some a → live c → a ≠ D := by
  have ne : ∀ (n : Nat) (c : Cell) (a : Addr), S[n]? = some c → s.m[n]? = some a → live c → a ≠ D := fun n c a h1 h2 l e => by
    subst e
    have := (g.liveAt h1 h2 l).2.1
    rw [show (s.fr a o).G a = _ from upd_same] at this
    cases this
  refine ⟨?_, g.exG _ _ upd_same, ne⟩
  have := g.reG (G' := s.G) (fun a u e => g.exG a u (by
    show upd s.G D o a = some u
    rw [upd_ne (ne_of_none e hG)]; exact e)) (fun n c a h1 h2 l => by
      have q := (g.liveAt h1 h2 l).2.1
      rw [show (s.fr D o).G a = _ from upd_ne (ne n c a h1 h2 l)] at q
      exact q) fun P hP => by
      have q := g.notG P hP
      rw [show (s.fr D o).G P = _ from upd_ne (g.frTab P hP)] at q
      exact q
  exact this
theorem Gd.adopt (g : Gd K CT s S H) {D : Addr} {o : HO} (hF : s.F D = none) (hG : s.G D = none) (hH : H D = some o) (ne : ∀ (n : Nat) (c : Cell) (a : Addr), S[n]? = some c → s.m[n]? = some a → live c → a ≠ D) (hD : ∀ P ∈ CT.tabs, P ≠ D) :
    Gd K CT { s with F := upd s.F D o } S H ∧ Ext s { s with F := upd s.F D o } := by
  have x : Ext s { s with F := upd s.F D o } := ⟨rfl, Ex.new hF, fun _ _ h => h, fun b h1 h2 => by
    have : b ≠ D := fun e => h2 (by rw [e]; exact hG)
    show upd s.F D o b = none
    rw [upd_ne this]; exact h1⟩
  refine ⟨⟨fun a u e => ?_, g.exG, g.len, fun n c a h1 h2 => ?_, g.inj, g.tab, fun P hP => by show upd s.F D o P = none; rw [upd_ne (hD P hP)]; exact g.notF P hP, g.notG⟩, x⟩
  · have e' : upd s.F D o a = some u := e
    by_cases q : a = D
    · subst q; rw [upd_same] at e'; cases e'; exact hH
    · rw [upd_ne q] at e'; exact g.exF a u e'
  · have q := g.cells n c a h1 h2
    cases c with
    | lst ws => obtain ⟨q1, q2, vs, q3, q4⟩ := q; exact ⟨by show upd s.F D o a = none; rw [upd_ne (ne n _ a h1 h2 trivial)]; exact q1, q2, vs, q3, q4.mono x⟩
    | ins c ns ws => obtain ⟨q1, q2, dx, vs, q3, ql, q4⟩ := q; exact ⟨by show upd s.F D o a = none; rw [upd_ne (ne n _ a h1 h2 trivial)]; exact q1, q2, dx, vs, q3, ql, q4.mono x⟩
    | frz p => exact RepP.mono x.f q
theorem lc_turn {ps : List P} {p : P} {i : Nat} (h : ps[i]? = some p) : ps.drop i = p :: ps.drop (i + 1) := by
  obtain ⟨hl, e⟩ := List.getElem?_eq_some_iff.mp h
  rw [List.drop_eq_getElem_cons hl, e]
/-- the state of a comprehension's block: the new list at D -/
def LcSt (K : PySem.W.Frag) (CT : CTb) (s1 : Fs) (D : Addr) (vs : List Nat) (t : Tg) (c : FE Bool) (e : FE W) (ρ : Env) (ps : List P) (Q : VK) (EX : Value → Option Addr → Hp → Prop) (i : Nat) (H : Hp) : Prop :=
  ∃ (s : Fs) (S : Store) (acc : List P) (vacc : List V), Ext s1 s ∧ Gd K CT (s.fr D (.lst vacc)) S H ∧ s.F D = none ∧ RepL K CT s.F acc vacc ∧ acc.length ≤ i ∧
    RG K CT (RepW K CT) s ((lcGo vs t c e ρ (ps.drop i) S).bind fun qs S2 => .ok (.val (.lst (acc ++ qs))) S2) Q EX
theorem lc_start {s1 : Fs} {D : Addr} {vs : List Nat} {t : Tg} {c : FE Bool} {e : FE W} {ρ : Env} {ps : List P} {Q : VK} {EX : Value → Option Addr → Hp → Prop} {S1 : Store} {H1 : Hp} (g : Gd K CT s1 S1 H1) (hD : H1 D = none)
    (h : RG K CT (RepW K CT) s1 ((lcGo vs t c e ρ ps S1).bind fun qs S2 => .ok (.val (.lst qs)) S2) Q EX) : LcSt K CT s1 D vs t c e ρ ps Q EX 0 (upd H1 D (.lst [])) :=
  ⟨s1, S1, [], [], Ext.refl _, g.setFr (g.exF.back hD) (g.exG.back hD) (fun n c a h1 h2 l z => (g.liveAt h1 h2 l).2.2 (by rw [z]; exact hD)) (g.neTab hD), g.exF.back hD, rfl, Nat.le_refl _, h⟩
theorem lc_end {s1 : Fs} {D : Addr} {vs : List Nat} {t : Tg} {c : FE Bool} {e : FE W} {ρ : Env} {ps : List P} {Q : VK} {EX : Value → Option Addr → Hp → Prop} {H : Hp} {H1 : Hp} {S1 : Store} (g1 : Gd K CT s1 S1 H1) (hD : H1 D = none)
    (h : LcSt K CT s1 D vs t c e ρ ps Q EX ps.length H) : Q (.ref D) H := by
  obtain ⟨s, S, acc, vacc, x, g, hF, r, _, h⟩ := h
  rw [List.drop_length] at h
  have hG : s.G D = none := by rw [← x.g]; exact g1.exG.back hD
  obtain ⟨g', hH, ne⟩ := g.ofFr hG
  have h' : RG K CT (RepW K CT) s (.ok (.val (.lst (acc ++ []))) S) Q EX := h
  rw [List.append_nil] at h'
  obtain ⟨g2, x2⟩ := g'.adopt hF hG hH ne g.frTab
  exact h' _ _ _ x2 g2 ⟨D, vacc, rfl, upd_same, r.mono x2.f⟩
end
section
variable {X : Cx} {CT : CTb} {U : WX} {elt tg iter : Expr} {ifs : List Expr} {scope : Scope} {own : List (Str × Nat)} {pos : Pos} {fi : FI} {t : Tg} {c : FE Bool} {e : FE W}
theorem lc_go {s1 : Fs} {S1 : Store} {H1 : Hp} {D : Addr} {ρ : Env} {σ : L2.St} {ps : List P} {J : It} {Q : VK} {vs : List Nat} {EX : Value → Option Addr → Hp → Prop} (g1 : Gd X.K CT s1 S1 H1) (en : EnvOk X.K CT s1 ρ σ) (hD : H1 D = none) (hsz : ps.length ≤ 100000) (hsl : ∀ i ∈ slots t, i ∈ vs) (w : WalkP X.K CT s1.F ps J)
    (h : RG X.K CT (RepW X.K CT) s1 ((lcGo vs t c e ρ ps S1).bind fun qs S2 => .ok (.val (.lst qs)) S2) Q EX) :
    ∃ W : Nat → Nat → Hp → Prop, (∃ m, W 0 m (upd H1 D (.lst []))) ∧ ∀ i m H, W i m H →
      (J.stop i H ∧ Q (.ref D) H) ∨ (J.go i H ∧ ∃ Nx : Hp → Prop, (∀ H', Nx H' → ∃ m', m' < m ∧ W (i + 1) m' H') ∧ ∀ x H', J.yld i H x H' → tgG X.K t x (L2.wipe σ vs) H' fun σ2 H2 => L2.wipe σ2 vs = L2.wipe σ vs ∧ canT X.K CT U0 c σ2 H2 fun b H3 =>
        if b = true then canE X.K CT U0 e σ2 H3 fun y H4 => ∃ acc, H4 D = some (.lst acc) ∧ acc.length < sizeLine ∧ Nx (upd H4 D (.lst (acc ++ [y]))) else Nx H3) := by
  obtain ⟨G, Y, wk, hG, hY⟩ := w
  refine lc_it wk (Qd := fun H => Q (.ref D) H) (fun i H => LcSt X.K CT s1 D vs t c e ρ ps Q EX i H) (lc_start g1 hD h) (fun i H hi ⟨s, S, acc, vacc, x, g, _⟩ => hG H (x.f.trans g.exF)) ?_ (fun H q => lc_end g1 hD q)
  rintro i x H H' hi ⟨s, S, acc, vacc, x0, g, hF, r, hl, h⟩ y
  have hGD : s.G D = none := by rw [← x0.g]; exact g1.exG.back hD
  obtain ⟨p, ep, yo⟩ := hY i H x H' hi (x0.f.trans g.exF) y
  rw [lc_turn ep] at h
  -- the item
  obtain ⟨s2', x2', g2', rp'⟩ : ∃ s', Ext (s.fr D (.lst vacc)) s' ∧ Gd X.K CT s' S H' ∧ RepP X.K CT s'.F p x := by
    rcases yo with ⟨rfl, rp⟩ | ⟨T, o, hT, rfl, rp⟩
    · exact ⟨_, Ext.refl _, g, rp.mono x0.f⟩
    · obtain ⟨g', x'⟩ := g.newF hT o
      exact ⟨_, x', g', rp _ (x0.f.trans x'.f) upd_same⟩
  obtain ⟨s2, rfl, x2, hF2⟩ := x2'.unfr2 hGD hF
  have h := RG.ext x2 h
  unfold lcGo at h
  cases eb : bindT t p (wipeE ρ vs) with
  | none => rw [eb] at h; exact h.elim
  | some ρ1 =>
    rw [eb] at h
    have en2 : EnvOk X.K CT (s2.fr D (.lst vacc)) (wipeE ρ vs) (L2.wipe σ vs) := EnvOk.reG (((en.mono x0).mono x2).wipe vs)
    refine bind_ok t (s := s2.fr D (.lst vacc)) g2'.exF rp' en2 eb fun σ2 en3 hw => ⟨(hw vs hsl).trans (wipe_wipe σ vs), ?_⟩
    simp only [RE.bind_bind] at h
    refine ⟨_, S, ρ1, g2', en3, RG.runN h fun b S3 s3' H3 b' er x3 g3 rb h3 => ?_⟩
    have rb : b = b' := rb
    subst rb
    obtain ⟨s3, rfl, x3', hF3⟩ := x3.unfr2 (by rw [← x2.g]; exact hGD) hF2
    have h3 := RG.ext x3' h3
    have ee : RepL X.K CT s3.F acc vacc := r.mono (x2.f.trans x3'.f)
    cases b with
    | false =>
      exact ⟨s3, S3, acc, vacc, (x0.trans x2).trans x3', g3, hF3, ee, Nat.le_succ_of_le hl, by simpa using h3⟩
    | true =>
      simp only [if_true, RE.bind_bind] at h3
      refine ⟨_, S3, ρ1, g3, en3.mono x3, RG.runN h3 fun w S4 s4' H4 yv er4 x4 g4 rw h4 => ?_⟩
      obtain ⟨s4, rfl, x4', hF4⟩ := x4.unfr2 (by rw [← x3'.g, ← x2.g]; exact hGD) hF3
      have h4 := RG.ext x4' h4
      have hG4 : s4.G D = none := by rw [← x4'.g, ← x3'.g, ← x2.g]; exact hGD
      cases ef : frz S4 w with
      | none => unfold doFrz at h4; rw [ef] at h4; exact h4.elim
      | some q =>
        obtain ⟨q, S5⟩ := q
        unfold doFrz at h4
        rw [ef] at h4
        obtain ⟨s5', x5, g5, r5⟩ := frz_ok g4 rw ef
        obtain ⟨s5, rfl, x5', hF5⟩ := x5.unfr2 hG4 hF4
        have h5 := RG.ext x5' h4
        obtain ⟨g5', hD5, ne5⟩ := g5.ofFr (by rw [← x5'.g]; exact hG4)
        have le := (ee.mono (x4'.f.trans x5'.f))
        refine ⟨vacc, hD5, by rw [ee.length]; exact sz5' (by omega), s5, S5, acc ++ [q], vacc ++ [yv], (((x0.trans x2).trans x3').trans x4').trans x5', ?_, hF5, le.append ⟨yv, [], rfl, r5, rfl⟩, by simp; omega, ?_⟩
        · exact g5'.setFr hF5 (by rw [← x5'.g]; exact hG4) ne5 g5.frTab
        · simp only [RE.bind] at h5 ⊢
          simp only [List.append_assoc, List.singleton_append]
          exact h5
theorem pz_lc (hc : X.calm = true) (hN : X.N.Nodup) (hi : PZI X CT U tg iter fi) (ok : BlkOk X.N X.env.scope scope own)
    (hg : ∀ (s : Shared) (H : Hp) (C : Addr) (cl : List (Str × Addr)) (fp : List Addr), PG (X.blk s H scope (compEnvC scope cl C X.env) fp) tg (tgG X.K t)) (ht : ∀ (s : Shared) (H : Hp) (C : Addr) (cl : List (Str × Addr)) (fp : List Addr), PTs (X.blk s H scope (compEnvC scope cl C X.env) fp) ifs (canT X.K CT U0 c))
    (he : ∀ (s : Shared) (H : Hp) (C : Addr) (cl : List (Str × Addr)) (fp : List Addr), PE (X.blk s H scope (compEnvC scope cl C X.env) fp) elt (canE X.K CT U0 e)) (hsl : ∀ i ∈ slots t, i ∈ own.map (·.2)) (hs : ∀ x, foldedSetIterable iter X.env x = pure x := by intro _; rfl) :
    PZ X CT U (.ListComp elt [⟨tg, iter, ifs, 0⟩] scope pos) (eLc fi (own.map (·.2)) t c e) := weakE (pe_lc hc hN hi ok hg ht he hs) fun σ H Q ⟨s, S, ρ, gd, en, h⟩ =>
  ⟨s, S, ρ, gd, en, RG.step h fun ps S1 s1 H1 J x1 g1 w1 h1 D hD => by
    split at h1
    · rename_i hsz
      exact lc_go g1 (en.mono x1) hD hsz hsl w1 h1
    · exact h1.elim⟩
theorem zts_nil : PTs X [] (canT X.K CT U0 cYes) := ⟨fun pins s σ H Q I ⟨s0, S, ρ, gd, en, h⟩ => pts_nil.run pins s σ H Q I (RG.here h gd rfl)⟩
theorem zts_one {cnd : Expr} (h : PZT X CT U0 cnd c) : PTs X [cnd] (canT X.K CT U0 c) := pts_one h
end
end Z
end
-- part Z6
section
set_option Elab.async false
set_option linter.all false
set_option maxRecDepth 100000
set_option autoImplicit false
namespace Z
open PySem PySem.Spec PyProof.Rows L2

/-! ### statements -/
def RS (K : PySem.W.Frag) (CT : CTb) (s : Fs) (r : R) (D : Ends) (U : WX) : Prop := match r with
  | .nx ρ' S' => ∀ s' H' σ', Ext s s' → Gd K CT s' S' H' → EnvOk K CT s' ρ' σ' → D.nx σ' H'
  | .bk ρ' S' => ∀ s' H' σ', Ext s s' → Gd K CT s' S' H' → EnvOk K CT s' ρ' σ' → D.bk σ' H'
  | .ct ρ' S' => ∀ s' H' σ', Ext s s' → Gd K CT s' S' H' → EnvOk K CT s' ρ' σ' → D.ct σ' H'
  | .rt w S' => ∀ s' H' v, Ext s s' → Gd K CT s' S' H' → RepW K CT s' w v → D.rt v H'
  | .ex x ρ' S' => ∀ s' H' σ' c dd, Ext s s' → Gd K CT s' S' H' → EnvOk K CT s' ρ' σ' → RepX K CT s'.F x c dd → U c dd σ' H'
  | .bad => False
def canS (K : PySem.W.Frag) (CT : CTb) (U : WX) (f : FS) : TS := fun D σ H => ∃ s S ρ, Gd K CT s S H ∧ EnvOk K CT s ρ σ ∧ RS K CT s (f ρ S) D U
abbrev PZS (X : Cx) (CT : CTb) (U : WX) (st : Stmt) (f : FS) : Prop := PS X st (canS X.K CT U f)
abbrev PZSs (X : Cx) (CT : CTb) (U : WX) (st : List Stmt) (f : FS) : Prop := PSs X st (canS X.K CT U f)
theorem weakS {X : Cx} {e : Stmt} {t t' : TS} (h : PS X e t) (w : ∀ D σ H, t' D σ H → t D σ H) : PS X e t' := ⟨fun pins s σ H D I q => h.run pins s σ H D I (w D σ H q)⟩
theorem weakSs {X : Cx} {e : List Stmt} {t t' : TS} (h : PSs X e t) (w : ∀ D σ H, t' D σ H → t D σ H) : PSs X e t' := ⟨fun pins s σ H D I q => h.run pins s σ H D I (w D σ H q)⟩
def sSeq (f g : FS) : FS := fun ρ S => match f ρ S with
  | .nx ρ' S' => g ρ' S'
  | r => r
/-- an expression's result, then a statement's -/
def RE.toR {α : Type} (r : RE α) (ρ : Env) (k : α → Store → R) : R := match r with
  | .ok a S => k a S
  | .ex x S => .ex x ρ S
  | .bad => .bad
def sSkip : FS := fun ρ S => .nx ρ S
def sAsg (i : Nat) (f : FE W) : FS := fun ρ S => (f ρ S).toR ρ fun w S' => .nx (ρ.set i (some w)) S'
/-- targets of any form: the value as data -/
def sAsgT (t : Tg) (f : FE W) : FS := fun ρ S => (f ρ S).toR ρ fun w S' => (doFrz w S').toR ρ fun p S2 => match bindT t p ρ with
  | some ρ' => .nx ρ' S2
  | none => .bad
def sExpr (f : FE W) : FS := fun ρ S => (f ρ S).toR ρ fun _ S' => .nx ρ S'
def sRet (f : FE W) : FS := fun ρ S => (f ρ S).toR ρ fun w S' => .rt w S'
def sIf (c : FE Bool) (f g : FS) : FS := fun ρ S => (c ρ S).toR ρ fun b S' => if b = true then f ρ S' else g ρ S'
section
variable {K : PySem.W.Frag} {CT : CTb} {s s' : Fs} {S : Store} {H : Hp} {U : WX}
theorem RS.ext {r : R} {D : Ends} (e : Ext s s') (h : RS K CT s r D U) : RS K CT s' r D U := by
  cases r with
  | nx ρ' S' => exact fun s2 H2 σ2 x => h s2 H2 σ2 (e.trans x)
  | bk ρ' S' => exact fun s2 H2 σ2 x => h s2 H2 σ2 (e.trans x)
  | ct ρ' S' => exact fun s2 H2 σ2 x => h s2 H2 σ2 (e.trans x)
  | rt ρ' S' => exact fun s2 H2 σ2 x => h s2 H2 σ2 (e.trans x)
  | ex x ρ' S' => exact fun s2 H2 σ2 c dd x => h s2 H2 σ2 c dd (e.trans x)
  | bad => exact h
theorem RS.here {ρ : Env} {σ : L2.St} {D : Ends} (h : RS K CT s (.nx ρ S) D U) (g : Gd K CT s S H) (en : EnvOk K CT s ρ σ) : D.nx σ H := h s H σ (Ext.refl s) g en
/-- the parts of a statement, an expression first -/
theorem RS.step {α γ : Type} {Ra : Fs → α → γ → Prop} {r : RE α} {ρ : Env} {σ : L2.St} {k : α → Store → R} {D : Ends} {Q : γ → Hp → Prop} (h : RS K CT s (r.toR ρ k) D U) (en : EnvOk K CT s ρ σ)
    (hk : ∀ a S1 s1 H1 b, Ext s s1 → Gd K CT s1 S1 H1 → Ra s1 a b → RS K CT s1 (k a S1) D U → Q b H1) : RG K CT Ra s r Q (fun c d H' => U c d σ H') := by
  cases r with
  | ok a S => exact fun s2 H2 b x g q => hk a S s2 H2 b x g q (RS.ext x h)
  | ex x S => exact fun s2 H2 c dd x g q => h s2 H2 σ c dd x g (en.mono x) q
  | bad => exact h
theorem seq_can {f g : FS} {D : Ends} {σ : L2.St} (h : canS K CT U (sSeq f g) D σ H) : canS K CT U f { D with nx := canS K CT U g D } σ H := by
  obtain ⟨s, S, ρ, gd, en, h⟩ := h
  refine ⟨s, S, ρ, gd, en, ?_⟩
  unfold sSeq at h
  cases er : f ρ S with
  | nx ρ' S' => rw [er] at h; exact fun s' H' σ' x g' e' => ⟨s', S', ρ', g', e', RS.ext x h⟩
  | bk ρ' S' => rw [er] at h; exact h
  | ct ρ' S' => rw [er] at h; exact h
  | rt ρ' S' => rw [er] at h; exact h
  | ex x ρ' S' => rw [er] at h; exact h
  | bad => rw [er] at h; exact h
end
section
variable {X : Cx} {CT : CTb} {U : WX} {st : Stmt} {sts : List Stmt} {f g : FS} {e : Expr} {fe : FE W} {pos : Pos} {c : Expr} {fc : FE Bool}
theorem zss_nil : PZSs X CT U [] sSkip := weakSs pss_nil fun D σ H ⟨s, S, ρ, gd, en, h⟩ => RS.here h gd en
theorem zss_cons (h1 : PZS X CT U st f) (h2 : PZSs X CT U sts g) : PZSs X CT U (st :: sts) (sSeq f g) := weakSs (pss_cons h1 h2) fun D σ H h => seq_can h
theorem zss_one (h1 : PZS X CT U st f) : PZSs X CT U [st] f := pss_one h1
theorem zs_pass : PZS X CT U (.Pass pos) sSkip := weakS ps_pass fun D σ H ⟨s, S, ρ, gd, en, h⟩ => RS.here h gd en
theorem zs_doc {x : Str} {j : Nat} {pos' : Pos} : PZS X CT U (.Expr (.Constant (.str x) j pos) pos') sSkip := weakS ps_doc fun D σ H ⟨s, S, ρ, gd, en, h⟩ => RS.here h gd en
def sBrk : FS := fun ρ S => .bk ρ S
def sCnt : FS := fun ρ S => .ct ρ S
theorem zs_break : PZS X CT U (.Break pos) sBrk := weakS ps_break fun D σ H ⟨s, S, ρ, gd, en, h⟩ => h s H σ (Ext.refl s) gd en
theorem zs_continue : PZS X CT U (.Continue pos) sCnt := weakS ps_continue fun D σ H ⟨s, S, ρ, gd, en, h⟩ => h s H σ (Ext.refl s) gd en
theorem zs_expr (he : PZ X CT U e fe) (hs : swapsWith e none pos.line X.env = pure false := by rfl) : PZS X CT U (.Expr e pos) (sExpr fe) := weakS (ps_expr he hs) fun D σ H ⟨s, S, ρ, gd, en, h⟩ =>
  ⟨s, S, ρ, gd, en, RS.step h en fun w S1 s1 H1 v x1 g1 r1 h1 => RS.here h1 g1 (en.mono x1)⟩
theorem zs_ret (he : PZ X CT U e fe) : PZS X CT U (.Return (some e) pos) (sRet fe) := weakS (ps_ret he) fun D σ H ⟨s, S, ρ, gd, en, h⟩ =>
  ⟨s, S, ρ, gd, en, RS.step h en fun w S1 s1 H1 v x1 g1 r1 h1 => h1 s1 H1 v (Ext.refl _) g1 r1⟩
def sRetN : FS := fun _ S => .rt (.val .non) S
theorem zs_retN : PZS X CT U (.Return none pos) sRetN := weakS ps_retN fun D σ H ⟨s, S, ρ, gd, en, h⟩ => h s H _ (Ext.refl s) gd rfl
theorem asg_can {i : Nat} {D : Ends} {σ : L2.St} {H : Hp} (h : canS X.K CT U (sAsg i fe) D σ H) : tAsg (canE X.K CT U fe) (gName i) D σ H := by
  obtain ⟨s, S, ρ, gd, en, h⟩ := h
  exact ⟨s, S, ρ, gd, en, RS.step h en fun w S1 s1 H1 v x1 g1 r1 h1 => RS.here h1 g1 ((en.mono x1).set r1)⟩
theorem zs_set (i : Nat) {x : Str} {pos' : Pos} (he : PZ X CT U e fe) (hN : X.N.Nodup) (hi : X.N[i]? = some x := by rfl) (hx : Loc X.env.scope x := by first | exact Or.inl rfl | exact Or.inr rfl) (hs : swapsWith e (some (.Name x pos')) pos.line X.env = pure false := by rfl) (hf : X.fn x = true ∨ X.env.scope.names.lookup x = some .local := by first | exact .inl rfl | exact .inr rfl | assumption) :
    PZS X CT U (.Assign [.Name x pos'] e pos) (sAsg i fe) := weakS (ps_set hN hi hx he hs hf) fun D σ H h => asg_can h
theorem zs_asgT {tg : Expr} {t : Tg} (he : PZ X CT U e fe) (hg : PG X tg (tgG X.K t)) (hs : swapsWithSole [tg] e pos.line X.env = pure false := by rfl) (hw : swappedStores [tg] e X.env = pure none := by rfl)
    (h1 : (assignEach [tg] X.env).map (·.2) = [assign tg X.env] := by rfl) : PZS X CT U (.Assign [tg] e pos) (sAsgT t fe) := weakS (ps_asg he hg hs hw h1) fun D σ H ⟨s, S, ρ, gd, en, h⟩ =>
  ⟨s, S, ρ, gd, en, RS.step h en fun w S1 s1 H1 v x1 g1 r1 h1 => by
    unfold doFrz at h1
    cases ef : frz S1 w with
    | none => rw [ef] at h1; exact h1.elim
    | some q =>
      obtain ⟨p, S2⟩ := q
      rw [ef] at h1
      obtain ⟨s2, x2, g2, r2⟩ := frz_ok g1 r1 ef
      have h2 := RS.ext x2 h1
      simp only [RE.toR] at h2
      cases eb : bindT t p ρ with
      | none => rw [eb] at h2; exact h2.elim
      | some ρ' =>
        rw [eb] at h2
        exact bind_ok t g2.exF r2 ((en.mono x1).mono x2) eb fun σ' en' _ => RS.here h2 g2 en'⟩
theorem zs_if {a b : List Stmt} (hc : PZT X CT U c fc) (ha : PZSs X CT U a f) (hb : PZSs X CT U b g) : PZS X CT U (.If c a b pos) (sIf fc f g) := weakS (ps_if hc ha hb) fun D σ H ⟨s, S, ρ, gd, en, h⟩ =>
  ⟨s, S, ρ, gd, en, RS.step h en fun k S1 s1 H1 v x1 g1 r1 h1 => by
    have r1 : k = v := r1
    subst r1
    cases k with
    | true => exact ⟨s1, S1, ρ, g1, en.mono x1, h1⟩
    | false => exact ⟨s1, S1, ρ, g1, en.mono x1, h1⟩⟩
/-! for -/
def forGo (t : Tg) (body : FS) : List P → Env → Store → R
  | [], ρ, S => .nx ρ S
  | p :: ps, ρ, S => match bindT t p ρ with
    | none => .bad
    | some ρ1 => match body ρ1 S with
      | .nx ρ2 S2 => forGo t body ps ρ2 S2
      | .ct ρ2 S2 => forGo t body ps ρ2 S2
      | .bk ρ2 S2 => .nx ρ2 S2
      | r => r
def sFor (fi : FI) (t : Tg) (body : FS) : FS := fun ρ S => (fi ρ S).toR ρ fun ps S1 => forGo t body ps ρ S1
def LoopSt (K : PySem.W.Frag) (CT : CTb) (U : WX) (s1 : Fs) (t : Tg) (body : FS) (ps : List P) (D : Ends) (i : Nat) (σ : L2.St) (H : Hp) : Prop :=
  ∃ (s : Fs) (S : Store) (ρ : Env), Ext s1 s ∧ Gd K CT s S H ∧ EnvOk K CT s ρ σ ∧ RS K CT s (forGo t body (ps.drop i) ρ S) D U
theorem for_can {fi : FI} {t : Tg} {D : Ends} {σ : L2.St} {H : Hp} (h : canS X.K CT U (sFor fi t f) D σ H) : tFor (canI X.K CT U fi) (tgG X.K t) (canS X.K CT U f) D σ H := by
  obtain ⟨s, S, ρ, gd, en, h⟩ := h
  refine ⟨s, S, ρ, gd, en, RS.step h en fun ps S1 s1 H1 J x1 g1 w1 h1 => ?_⟩
  obtain ⟨G, Y, wk, hG, hY⟩ := w1
  refine for_it wk (LoopSt X.K CT U s1 t f ps D) ⟨s1, S1, ρ, Ext.refl _, g1, en.mono x1, h1⟩ (fun i σ H hi ⟨s, S, ρ, x, g, _, _⟩ => hG H (x.f.trans g.exF)) ?_ ?_
  · rintro i x σ2 H2 H3 hi ⟨s2, S2, ρ2, x2, g2, en2, h2⟩ y
    obtain ⟨p, ep, yo⟩ := hY i H2 x H3 hi (x2.f.trans g2.exF) y
    rw [lc_turn ep] at h2
    obtain ⟨s3, x3, g3, rp⟩ : ∃ s3, Ext s2 s3 ∧ Gd X.K CT s3 S2 H3 ∧ RepP X.K CT s3.F p x := by
      rcases yo with ⟨rfl, rp⟩ | ⟨T, o, hT, rfl, rp⟩
      · exact ⟨s2, Ext.refl _, g2, rp.mono x2.f⟩
      · obtain ⟨g', x'⟩ := g2.newF hT o
        exact ⟨_, x', g', rp _ (x2.f.trans x'.f) upd_same⟩
    have h3 := RS.ext x3 h2
    unfold forGo at h3
    cases eb : bindT t p ρ2 with
    | none => rw [eb] at h3; exact h3.elim
    | some ρ3 =>
      rw [eb] at h3
      simp only at h3
      refine bind_ok t g3.exF rp (en2.mono x3) eb fun σ3 en3 _ => ⟨s3, S2, ρ3, g3, en3, ?_⟩
      cases er : f ρ3 S2 with
      | nx ρ4 S4 => rw [er] at h3; exact fun s4 H4 σ4 x4 g4 en4 => ⟨s4, S4, ρ4, (x2.trans x3).trans x4, g4, en4, RS.ext x4 h3⟩
      | ct ρ4 S4 => rw [er] at h3; exact fun s4 H4 σ4 x4 g4 en4 => ⟨s4, S4, ρ4, (x2.trans x3).trans x4, g4, en4, RS.ext x4 h3⟩
      | bk ρ4 S4 => rw [er] at h3; exact h3
      | rt ρ4 S4 => rw [er] at h3; exact h3
      | ex x ρ4 S4 => rw [er] at h3; exact h3
      | bad => rw [er] at h3; exact h3
  · rintro σ2 H2 ⟨s2, S2, ρ2, x2, g2, en2, h2⟩
    rw [List.drop_length] at h2
    exact RS.here h2 g2 en2
theorem zs_for {tg iter : Expr} {body : List Stmt} {fi : FI} {t : Tg} (hp : PassesOwn (model X.prog X.w) X.A X.env X.xe) (hc : X.calm = true) (hi : PZI X CT U tg iter fi) (hg : PG X tg (tgG X.K t)) (hb : PZSs X CT U body f)
    (hs : ∀ x, foldedSetIterable iter X.env x = pure x := by intro _; rfl) : PZS X CT U (.For tg iter body [] pos) (sFor fi t f) := weakS (ps_for hp hc hi hg hb hs) fun D σ H h => for_can h
/-! while -/
def whileGo (c : FE Bool) (body : FS) : Nat → Env → Store → Option R
  | 0, _, _ => none
  | n + 1, ρ, S => match c ρ S with
    | .ok true S1 => match body ρ S1 with
      | .nx ρ2 S2 => whileGo c body n ρ2 S2
      | .ct ρ2 S2 => whileGo c body n ρ2 S2
      | .bk ρ2 S2 => some (.nx ρ2 S2)
      | r => some r
    | .ok false S1 => some (.nx ρ S1)
    | .ex x S1 => some (.ex x ρ S1)
    | .bad => some .bad
open Classical in
noncomputable def sWhile (c : FE Bool) (body : FS) : FS := fun ρ S => if h : ∃ n r, whileGo c body n ρ S = some r then h.choose_spec.choose else .bad
theorem whileGo_mono {c : FE Bool} {body : FS} : ∀ {n : Nat} {ρ : Env} {S : Store} {r : R}, whileGo c body n ρ S = some r → whileGo c body (n + 1) ρ S = some r
  | 0, _, _, _, h => by cases h
  | n + 1, ρ, S, r, h => by
    unfold whileGo at h ⊢
    split at h <;> try exact h
    split at h <;> first | exact h | exact whileGo_mono h
theorem whileGo_le {c : FE Bool} {body : FS} {n : Nat} {ρ : Env} {S : Store} {r : R} (h : whileGo c body n ρ S = some r) : ∀ k, whileGo c body (n + k) ρ S = some r
  | 0 => h
  | k + 1 => whileGo_mono (whileGo_le h k)
theorem sWhile_eq {c : FE Bool} {body : FS} {n : Nat} {ρ : Env} {S : Store} {r : R} (h : whileGo c body n ρ S = some r) : sWhile c body ρ S = r := by
  have ex : ∃ n r, whileGo c body n ρ S = some r := ⟨n, r, h⟩
  unfold sWhile
  rw [dif_pos ex]
  have h2 := ex.choose_spec.choose_spec
  have a := whileGo_le h (ex.choose)
  have b := whileGo_le h2 n
  rw [Nat.add_comm] at b
  rw [a] at b
  exact (Option.some.inj b).symm
theorem while_can {fc : FE Bool} {D : Ends} {σ : L2.St} {H : Hp} (h : canS X.K CT U (sWhile fc f) D σ H) : tWhile (canT X.K CT U fc) (canS X.K CT U f) D σ H := by
  obtain ⟨s, S, ρ, gd, en, h⟩ := h
  by_cases ex : ∃ n r, whileGo fc f n ρ S = some r
  · obtain ⟨n, r, e⟩ := ex
    rw [sWhile_eq e] at h
    refine ⟨fun m σ H => ∃ s S ρ r, Gd X.K CT s S H ∧ EnvOk X.K CT s ρ σ ∧ whileGo fc f m ρ S = some r ∧ RS X.K CT s r D U, ⟨n, s, S, ρ, r, gd, en, e, h⟩, ?_⟩
    rintro m σ H ⟨s, S, ρ, r, gd, en, e, h⟩
    cases m with
    | zero => cases e
    | succ m =>
      refine ⟨s, S, ρ, gd, en, ?_⟩
      unfold whileGo at e
      cases ec : fc ρ S with
      | bad => rw [ec] at e; cases e; exact h.elim
      | ex x S1 => rw [ec] at e; cases e; exact fun s2 H2 c dd x g q => h s2 H2 σ c dd x g (en.mono x) q
      | ok b S1 =>
        rw [ec] at e
        intro s1 H1 b' x1 g1 rb
        have rb : b = b' := rb
        subst rb
        cases b with
        | false => cases e; exact RS.here (RS.ext x1 h) g1 (en.mono x1)
        | true =>
          simp only at e
          refine ⟨fun σ' H' => ∃ s S ρ, Gd X.K CT s S H' ∧ EnvOk X.K CT s ρ σ' ∧ whileGo fc f m ρ S = some r ∧ RS X.K CT s r D U, fun σ' H' ⟨s, S, ρ, g, en, e, h⟩ => ⟨m, Nat.lt_succ_self m, s, S, ρ, r, g, en, e, h⟩, ?_⟩
          refine ⟨s1, S1, ρ, g1, en.mono x1, ?_⟩
          have h1 := RS.ext x1 h
          cases er : f ρ S1 with
          | nx ρ2 S2 => rw [er] at e; exact fun s2 H2 σ2 x2 g2 en2 => ⟨s2, S2, ρ2, g2, en2, e, RS.ext x2 h1⟩
          | ct ρ2 S2 => rw [er] at e; exact fun s2 H2 σ2 x2 g2 en2 => ⟨s2, S2, ρ2, g2, en2, e, RS.ext x2 h1⟩
          | bk ρ2 S2 => rw [er] at e; cases e; exact h1
          | rt w S2 => rw [er] at e; cases e; exact h1
          | ex x ρ2 S2 => rw [er] at e; cases e; exact h1
          | bad => rw [er] at e; cases e; exact h1
  · unfold sWhile at h
    rw [dif_neg ex] at h
    exact h.elim
theorem zs_while {body : List Stmt} (hp : PassesOwn (model X.prog X.w) X.A X.env X.xe) (hc : PZT X CT U c fc) (hb : PZSs X CT U body f) : PZS X CT U (.While c body [] pos) (sWhile fc f) := weakS (ps_while hp hc hb) fun D σ H h => while_can h
/-! x += e, x -= e -/
def sAug (i : Nat) (op : O2) (fe : FE W) : FS := fun ρ S => match ρ[i]? with
  | some (some a) => (fe ρ S).toR ρ fun b S1 => (op a b S1).toR ρ fun w S2 => .nx (ρ.set i (some w)) S2
  | _ => .bad
def IpZ (K : PySem.W.Frag) (CT : CTb) (r : TIp) (op : O2) : Prop := ∀ (s : Fs) (S : Store) (H : Hp) (a b : W) (x y : V) (Q : VK) (EX : Value → Option Addr → Hp → Prop),
  Gd K CT s S H → RepW K CT s a x → RepW K CT s b y → RG K CT (RepW K CT) s (op a b S) Q EX → r x y H Q
theorem zs_aug (i : Nat) {x : Str} {op : Operator} {ti : TIp} {g : O2} {pos' : Pos} (he : PZ X CT U e fe) (ho : PIp X op ti) (hz : IpZ X.K CT ti g) (hN : X.N.Nodup) (hi : X.N[i]? = some x := by rfl) (hx : Loc X.env.scope x := by first | exact Or.inl rfl | exact Or.inr rfl) (hf : X.fn x = true ∨ X.env.scope.names.lookup x = some .local := by first | exact .inl rfl | exact .inr rfl | assumption) :
    PZS X CT U (.AugAssign (.Name x pos') op e pos) (sAug i g fe) := weakS (ps_aug hN hi hx he ho hf) fun D σ H ⟨s, S, ρ, gd, en, h⟩ => by
  unfold sAug at h
  cases ei : ρ[i]? with
  | none => rw [ei] at h; exact h.elim
  | some o =>
    cases o with
    | none => rw [ei] at h; exact h.elim
    | some a =>
      rw [ei] at h
      obtain ⟨v, hv, rv⟩ := en.get i a ei
      refine ⟨v, hv, s, S, ρ, gd, en, RS.step h en fun b S1 s1 H1 y x1 g1 r1 h1 => ?_⟩
      refine hz s1 S1 H1 a b v y _ _ g1 (rv.mono x1) r1 (RS.step h1 (en.mono x1) fun w S2 s2 H2 z x2 g2 r2 h2 => ?_)
      exact RS.here h2 g2 (((en.mono x1).mono x2).set r2)
theorem ipz_int {K : PySem.W.Frag} {f : Int → Int → Int} {op : O2} (hf : ∀ i j S, op (.val (.int i)) (.val (.int j)) S = .ok (.val (.int (f i j))) S) (hn : ∀ a b S, (∃ i j, a = .val (.int i) ∧ b = .val (.int j)) ∨ op a b S = .bad) : IpZ K CT (ipI f) op := fun s S H a b x y Q EX gd ra rb h => by
  rcases hn a b S with ⟨i, j, rfl, rfl⟩ | e
  · rw [hf] at h
    exact ⟨i, j, ra, rb, RG.here h gd rfl⟩
  · rw [e] at h; exact h.elim
end
end Z
end
-- part Z7
section
set_option Elab.async false
set_option linter.all false
set_option maxRecDepth 100000
set_option autoImplicit false
namespace Z
open PySem PySem.Spec PyProof.Rows L2

/-! ### fields -/
def lookA {α : Type} (f : Str) (ns : List Str) (xs : List α) : Option α := (ns.zip xs).lookup f
section
variable {K : PySem.W.Frag} {CT : CTb} {s : Fs} {F : Hp}
theorem lookW {f : Str} : ∀ {ns : List Str} {ws : List W} {vs : List V} {w : W}, RepWs K CT s ws vs → lookA f ns ws = some w → ∃ v, (ns.zip vs).lookup f = some v ∧ RepW K CT s w v
  | [], _, _, _, _, e => by simp [lookA] at e
  | _ :: _, [], _, _, _, e => by simp [lookA] at e
  | n :: ns, w :: ws, _, _, ⟨v, vs', rfl, h2, h3⟩, e => by
    unfold lookA at e
    rw [List.zip_cons_cons, List.lookup_cons] at e ⊢
    cases q : f == n with
    | true => rw [q] at e; cases e; exact ⟨v, rfl, h2⟩
    | false => rw [q] at e; exact lookW h3 e
theorem lookPs {f : Str} : ∀ {ns : List Str} {ws : List P} {vs : List V} {w : P}, RepL K CT F ws vs → lookA f ns ws = some w → ∃ v, (ns.zip vs).lookup f = some v ∧ RepP K CT F w v
  | [], _, _, _, _, e => by simp [lookA] at e
  | _ :: _, [], _, _, _, e => by simp [lookA] at e
  | n :: ns, w :: ws, _, _, ⟨v, vs', rfl, h2, h3⟩, e => by
    unfold lookA at e
    rw [List.zip_cons_cons, List.lookup_cons] at e ⊢
    cases q : f == n with
    | true => rw [q] at e; cases e; exact ⟨v, rfl, h2⟩
    | false => rw [q] at e; exact lookPs h3 e
theorem look_none {m : Str} : ∀ {ns : List Str} {vs : List V}, ns.contains m = false → (ns.zip vs).lookup m = none
  | [], _, _ => by simp
  | _ :: _, [], _ => by simp
  | n :: ns, v :: vs, h => by
    rw [List.contains_cons, Bool.or_eq_false_iff] at h
    rw [List.zip_cons_cons, List.lookup_cons, h.1]
    exact look_none h.2
end
def putN (f : Str) : List Str → List Str
  | [] => [f]
  | g :: r => if g = f then g :: r else g :: putN f r
def putA {α : Type} (f : Str) (x : α) : List Str → List α → List α
  | [], _ => [x]
  | _ :: _, [] => []
  | g :: r, y :: ys => if g = f then x :: ys else y :: putA f x r ys
theorem putN_len {α : Type} (f : Str) (x : α) : ∀ {ns : List Str} {ys : List α}, ns.length = ys.length → (putN f ns).length = (putA f x ns ys).length
  | [], [], _ => rfl
  | [], _ :: _, h => by simp at h
  | _ :: _, [], h => by simp at h
  | g :: r, y :: ys, h => by
    have h' : r.length = ys.length := by simpa using h
    unfold putN putA
    split
    · simp [h']
    · simp [putN_len f x h']
theorem putF_zip (f : Str) (v : V) : ∀ {ns : List Str} {vs : List V}, ns.length = vs.length → putF f v (ns.zip vs) = (putN f ns).zip (putA f v ns vs)
  | [], [], _ => rfl
  | [], _ :: _, h => by simp at h
  | _ :: _, [], h => by simp at h
  | g :: r, y :: ys, h => by
    have h' : r.length = ys.length := by simpa using h
    rw [List.zip_cons_cons]
    unfold putF putN putA
    split
    · rfl
    · rw [putF_zip f v h']; rfl
theorem RepWs.put {K : PySem.W.Frag} {CT : CTb} {s : Fs} {f : Str} {w : W} {v : V} (hw : RepW K CT s w v) : ∀ {ns : List Str} {ws : List W} {vs : List V}, ns.length = ws.length → RepWs K CT s ws vs → RepWs K CT s (putA f w ns ws) (putA f v ns vs)
  | [], _, _, _, _ => ⟨v, [], rfl, hw, rfl⟩
  | _ :: _, [], _, h, _ => by simp at h
  | g :: r, y :: ys, _, h, ⟨v', vs', h1, h2, h3⟩ => by
    have h' : r.length = ys.length := by simpa using h
    subst h1
    unfold putA
    split
    · exact ⟨v, vs', rfl, hw, h3⟩
    · exact ⟨v', _, rfl, h2, RepWs.put hw h' h3⟩
def fldOf (c f : Str) (S : Store) : W → Option W
  | .val (.obj c' ns ps) => if c' = c then (lookA f ns ps).map .val else none
  | .loc n => match S[n]? with
    | some (.ins c' ns ws) => if c' = c then lookA f ns ws else none
    | some (.frz (.obj c' ns ps)) => if c' = c then (lookA f ns ps).map .val else none
    | _ => none
  | _ => none
def eFld (c f : Str) (fa : FE W) : FE W := fun ρ S => (fa ρ S).bind fun w S1 => orBad (fldOf c f S1 w) S1
def sFldS (c f : Str) (fo fv : FE W) : FS := fun ρ S => (fv ρ S).toR ρ fun w S1 => (fo ρ S1).toR ρ fun o S2 => match o with
  | .loc n => match S2[n]? with
    | some (.ins c' ns ws) => if c' = c ∧ ns.length < 1000 then .nx ρ (S2.set n (.ins c' (putN f ns) (putA f w ns ws))) else .bad
    | _ => .bad
  | _ => .bad
/-- a class of the program: what is known of it -/
structure ClsF (K : PySem.W.Frag) (CT : CTb) (c : Str) : Prop where
  cl : Cls K (CT c)
section
variable {X : Cx} {CT : CTb} {U : WX} {e o value : Expr} {fe fo fv : FE W} {pos pos' : Pos} {c f : Str}
theorem fldOf_ok {K : PySem.W.Frag} {s : Fs} {S : Store} {H : Hp} (g : Gd K CT s S H) {w u : W} {v : V} (r : RepW K CT s w v) (e : fldOf c f S w = some u) : ∃ a dx fs x, v = .ref a ∧ H a = some (.ins (CT c) dx fs) ∧ fs.lookup f = some x ∧ RepW K CT s u x := by
  cases w with
  | val p =>
    cases p with
    | obj c' ns ps =>
      simp only [fldOf] at e
      split at e
      · rename_i hc
        subst hc
        simp only [Option.map_eq_some_iff] at e
        obtain ⟨q, e, rfl⟩ := e
        obtain ⟨a, dx, vs, rfl, h1, hl, h2⟩ := r
        obtain ⟨x, e1, r1⟩ := lookPs h2 e
        exact ⟨a, dx, _, x, rfl, g.exF _ _ h1, e1, r1⟩
      · cases e
    | _ => cases e
  | loc n =>
    obtain ⟨a, h1, rfl⟩ := r
    unfold fldOf at e
    cases hc : S[n]? with
    | none => simp [hc] at e
    | some cell =>
      have q := g.cells n _ a hc h1
      cases cell with
      | lst ws => simp [hc] at e
      | ins c' ns ws =>
        simp only [hc] at e
        split at e
        · rename_i h; subst h
          obtain ⟨_, _, dx, vs, q3, ql, q4⟩ := q
          obtain ⟨x, e1, r1⟩ := lookW q4 e
          exact ⟨a, dx, _, x, rfl, q3, e1, r1⟩
        · cases e
      | frz p =>
        cases p with
        | obj c' ns ps =>
          simp only [hc] at e
          split at e
          · rename_i h; subst h
            simp only [Option.map_eq_some_iff] at e
            obtain ⟨z, e, rfl⟩ := e
            obtain ⟨b, dx, vs, hb, h1, hl, h2⟩ := q
            cases hb
            obtain ⟨x, e1, r1⟩ := lookPs h2 e
            exact ⟨_, dx, _, x, rfl, g.exF _ _ h1, e1, r1⟩
          · cases e
        | _ => simp [hc] at e
theorem pz_fld (cl : Cls X.K (CT c)) (na : NoAttr X.K (CT c) f) (he : PZ X CT U e fe) (hb : attributeBase e f X.env (eval e X.env) = eval e X.env := by rfl) : PZ X CT U (.Attribute e f pos) (eFld c f fe) := weakE (pe_fld he hb) fun σ H Q ⟨s, S, ρ, gd, en, h⟩ =>
  ⟨s, S, ρ, gd, en, RG.step h fun w S1 s1 H1 v x1 g1 r1 h1 => by
    obtain ⟨u, e, h1⟩ := RG.orBad h1
    obtain ⟨a, dx, fs, x, rfl, q1, q2, q3⟩ := fldOf_ok g1 r1 e
    exact ⟨a, CT c, dx, fs, x, rfl, q1, cl, na, q2, RG.here h1 g1 q3⟩⟩
theorem zs_fld (cl : Cls X.K (CT c)) (na : NoAttr X.K (CT c) f) (ho : PZ X CT U o fo) (hv : PZ X CT U value fv) (hs : swapsWith value (some (.Attribute o f pos')) pos.line X.env = pure false := by rfl) : PZS X CT U (.Assign [.Attribute o f pos'] value pos) (sFldS c f fo fv) :=
  weakS (ps_fld ho hv hs) fun D σ H ⟨s, S, ρ, gd, en, h⟩ => ⟨s, S, ρ, gd, en, RS.step h en fun w S1 s1 H1 v x1 g1 r1 h1 => ⟨s1, S1, ρ, g1, en.mono x1, RS.step h1 (en.mono x1) fun ow S2 s2 H2 ov x2 g2 r2 h2 => by
    cases ow with
    | val p => exact h2.elim
    | loc n =>
      obtain ⟨a, m1, rfl⟩ := r2
      cases hc : S2[n]? with
      | none => simp only [hc] at h2; exact h2.elim
      | some cell =>
        cases cell with
        | lst ws => simp only [hc] at h2; exact h2.elim
        | frz ws => simp only [hc] at h2; exact h2.elim
        | ins c' ns ws =>
          simp only [hc] at h2
          split at h2
          · rename_i hcc
            obtain ⟨rfl, hlen⟩ := hcc
            obtain ⟨q1, q2, dx, vs, q3, ql, q4⟩ := g2.cells n _ a hc m1
            have lz : ns.length = vs.length := by rw [q4.length]; exact ql
            refine ⟨a, CT c', dx, _, rfl, q3, cl, na, by rw [List.length_zip]; omega, ?_⟩
            rw [putF_zip f v lz]
            refine RS.here h2 (g2.setC hc trivial m1 q1 q2 (by rw [q3]; simp) ⟨q1, q2, dx, _, upd_same, putN_len f w ql, RepWs.put (r1.mono x2) ql q4⟩) ((en.mono x1).mono x2)
          · exact h2.elim⟩⟩

/-! ### methods of lists -/
def MethZ (K : PySem.W.Frag) (CT : CTb) (r : V → List V → Hp → VK → Prop) (op : W → List W → Store → RE W) : Prop := ∀ (s : Fs) (S : Store) (H : Hp) (w : W) (v : V) (ws : List W) (vs : List V) (Q : VK) (EX : Value → Option Addr → Hp → Prop),
  Gd K CT s S H → RepW K CT s w v → RepWs K CT s ws vs → RG K CT (RepW K CT) s (op w ws S) Q EX → r v vs H Q
def isTy (T : String) (S : Store) (w : W) : Bool := match w with
  | .val (.str _) => T == "str"
  | .val (.int _) => T == "int"
  | w => T == "list" && (seqW S w).isSome
theorem isTy_ok {K : PySem.W.Frag} {s : Fs} {S : Store} {H : Hp} {T : String} (g : Gd K CT s S H) {w : W} {v : V} (r : RepW K CT s w v) (e : isTy T S w = true) : tyV K T v H := by
  unfold isTy at e
  split at e
  · rw [show v = _ from r]; exact beq_iff_eq.mp e
  · rw [show v = _ from r]; exact beq_iff_eq.mp e
  · simp only [Bool.and_eq_true, beq_iff_eq, Option.isSome_iff_exists] at e
    obtain ⟨rfl, ws, e⟩ := e
    obtain ⟨a, vs, rfl, h1, h2⟩ := seqW_ok g r e
    exact .inl ⟨rfl, vs, h1⟩
def eBM (T : String) (op : W → List W → Store → RE W) (fo : FE W) (fa : FE (List W)) : FE W := fun ρ S => (fo ρ S).bind fun w S1 => if isTy T S1 w = true then (fa ρ S1).bind fun ws S2 => op w ws S2 else .bad
def eBM0 (T : String) (op : W → List W → Store → RE W) (fo : FE W) : FE W := fun ρ S => (fo ρ S).bind fun w S1 => if isTy T S1 w = true then op w [] S1 else .bad
variable {es : List Expr} {ga : FE (List W)} {apos : Pos} {r : V → List V → Hp → VK → Prop} {op : W → List W → Store → RE W} {T bid : String} {name : Str}
theorem bm_can (hz : MethZ X.K CT r op) {σ : L2.St} {H : Hp} {Q : VK} (h : canE X.K CT U (eBM T op fo ga) σ H Q) : tBM X.K T r (canE X.K CT U fo) (canA X.K CT U ga) σ H Q := by
  obtain ⟨s, S, ρ, gd, en, h⟩ := h
  refine ⟨s, S, ρ, gd, en, RG.step h fun w S1 s1 H1 v x1 g1 r1 h1 => ?_⟩
  split at h1
  · rename_i ty
    exact ⟨isTy_ok g1 r1 ty, s1, S1, ρ, g1, en.mono x1, RG.step h1 fun ws S2 s2 H2 vs x2 g2 r2 h2 => hz s2 S2 H2 w v ws vs Q _ g2 (r1.mono x2) r2 h2⟩
  · exact h1.elim
theorem bm0_can (hz : MethZ X.K CT r op) {σ : L2.St} {H : Hp} {Q : VK} (h : canE X.K CT U (eBM0 T op fo) σ H Q) : tBM0 X.K T r (canE X.K CT U fo) σ H Q := by
  obtain ⟨s, S, ρ, gd, en, h⟩ := h
  refine ⟨s, S, ρ, gd, en, RG.step h fun w S1 s1 H1 v x1 g1 r1 h1 => ?_⟩
  split at h1
  · rename_i ty
    exact ⟨isTy_ok g1 r1 ty, hz s1 S1 H1 w v [] [] Q _ g1 r1 rfl h1⟩
  · exact h1.elim
/-- a live list -/
def liveL (S : Store) : W → Option (Nat × List W)
  | .loc n => match S[n]? with
    | some (.lst ws) => some (n, ws)
    | _ => none
  | _ => none
def appendW : W → List W → Store → RE W := fun o ws S => match liveL S o, ws with
  | some (n, xs), [w] => if xs.length < 100000 then .ok (.val .non) (S.set n (.lst (xs ++ [w]))) else .bad
  | _, _ => .bad
theorem liveL_ok {K : PySem.W.Frag} {s : Fs} {S : Store} {H : Hp} (g : Gd K CT s S H) {w : W} {v : V} {n : Nat} {xs : List W} (r : RepW K CT s w v) (e : liveL S w = some (n, xs)) :
    ∃ a vs, v = .ref a ∧ S[n]? = some (.lst xs) ∧ s.m[n]? = some a ∧ s.F a = none ∧ s.G a = none ∧ H a = some (.lst vs) ∧ RepWs K CT s xs vs := by
  cases w with
  | val p => cases e
  | loc k =>
    unfold liveL at e
    cases hc : S[k]? with
    | none => simp [hc] at e
    | some cell =>
      cases cell with
      | lst ws =>
        simp only [hc] at e
        cases e
        obtain ⟨a, m1, rfl⟩ := r
        obtain ⟨q1, q2, vs, q3, q4⟩ := g.cells _ _ a hc m1
        exact ⟨a, vs, rfl, hc, m1, q1, q2, q3, q4⟩
      | _ => simp [hc] at e
theorem mz_append {K : PySem.W.Frag} : MethZ K CT rAppend appendW := fun s S H w v ws vs Q EX gd r1 r2 h => by
  unfold appendW at h
  split at h
  · rename_i n xs u e
    obtain ⟨a, us, rfl, h1, h2, h3, h4, h5, h6⟩ := liveL_ok gd r1 e
    obtain ⟨y, rfl, ry⟩ := rep1 r2
    split at h
    · rename_i hl
      exact ⟨a, us, y, rfl, rfl, h5, by rw [h6.length]; exact sz5' hl, RG.here h (gd.setC h1 trivial h2 h3 h4 (by rw [h5]; simp) ⟨h3, h4, _, upd_same, h6.append ⟨y, [], rfl, ry, rfl⟩⟩) rfl⟩
    · exact h.elim
  · exact h.elim
theorem pz_append (ho : PZ X CT U o fo) (ha : PZA X CT U [e] ga) (hst : starEach [e] X.env = (false, eval e X.env) :: starEach [] X.env := by rfl)
    (ht : PE X (.Call (.Attribute o "append" apos) [e] [] pos) (tBM X.K "list" rAppend (canE X.K CT U fo) (canA X.K CT U ga))) : PZ X CT U (.Call (.Attribute o "append" apos) [e] [] pos) (eBM "list" appendW fo ga) := weakE ht fun σ H Q h => bm_can mz_append h
/-- a method of a built-in: ht is pe_bm .. of the parts -/
theorem pz_bm {call : Expr} (hz : MethZ X.K CT r op) (ht : PE X call (tBM X.K T r (canE X.K CT U fo) (canA X.K CT U ga))) : PZ X CT U call (eBM T op fo ga) := weakE ht fun σ H Q h => bm_can hz h
theorem pz_bm0 {call : Expr} (hz : MethZ X.K CT r op) (ht : PE X call (tBM0 X.K T r (canE X.K CT U fo))) : PZ X CT U call (eBM0 T op fo) := weakE ht fun σ H Q h => bm0_can hz h
def insertW : W → List W → Store → RE W := fun o ws S => match liveL S o, ws with
  | some (n, xs), [.val (.int i), w] => if xs.length < 100000 ∧ 0 ≤ i ∧ i < 2 ^ 62 then .ok (.val .non) (S.set n (.lst (xs.take i.toNat ++ [w] ++ xs.drop i.toNat))) else .bad
  | _, _ => .bad
theorem RepWs.one {K : PySem.W.Frag} {s : Fs} {w : W} {v : V} (h : RepW K CT s w v) : RepWs K CT s [w] [v] := ⟨v, [], rfl, h, rfl⟩
theorem RepWs.take {K : PySem.W.Frag} {s : Fs} : ∀ {ws : List W} {vs : List V} (n : Nat), RepWs K CT s ws vs → RepWs K CT s (ws.take n) (vs.take n)
  | [], vs, n, h => by rw [show vs = [] from h]; simp; exact rfl
  | w :: ws, _, 0, ⟨v, vs', rfl, h2, h3⟩ => rfl
  | w :: ws, _, n + 1, ⟨v, vs', rfl, h2, h3⟩ => ⟨v, vs'.take n, rfl, h2, RepWs.take n h3⟩
theorem RepWs.drop {K : PySem.W.Frag} {s : Fs} : ∀ {ws : List W} {vs : List V} (n : Nat), RepWs K CT s ws vs → RepWs K CT s (ws.drop n) (vs.drop n)
  | [], vs, n, h => by rw [show vs = [] from h]; simp; exact rfl
  | w :: ws, _, 0, h => h
  | w :: ws, _, n + 1, ⟨v, vs', rfl, h2, h3⟩ => RepWs.drop n h3
theorem mz_insert {K : PySem.W.Frag} : MethZ K CT (fun x vs H Q => ∃ (l : Addr) (xs : List V) (i : Int) (y : V), x = .ref l ∧ vs = [.int i, y] ∧ H l = some (.lst xs) ∧ xs.length < sizeLine ∧ 0 ≤ i ∧ i < 2 ^ 63 ∧
    Q .non (upd H l (.lst (xs.take i.toNat ++ [y] ++ xs.drop i.toNat)))) insertW := fun s S H w v ws vs Q EX gd r1 r2 h => by
  unfold insertW at h
  split at h
  · rename_i n xs i u e
    obtain ⟨a, us, rfl, h1, h2, h3, h4, h5, h6⟩ := liveL_ok gd r1 e
    obtain ⟨y, y2, rfl, ry, ry2⟩ := rep2 r2
    split at h
    · rename_i hl
      exact ⟨a, us, i, y2, rfl, by rw [show y = _ from ry], h5, by rw [h6.length]; exact sz5' hl.1, hl.2.1, by omega, RG.here h (gd.setC h1 trivial h2 h3 h4 (by rw [h5]; simp) ⟨h3, h4, _, upd_same, (RepWs.append (RepWs.append (h6.take _) (RepWs.one ry2)) (h6.drop _))⟩) rfl⟩
    · exact h.elim
  · exact h.elim
def popW : W → List W → Store → RE W := fun o ws S => match liveL S o, ws with
  | some (n, xs), [] => match xs[xs.length - 1]? with
    | some w => .ok w (S.set n (.lst xs.dropLast))
    | none => .bad
  | _, _ => .bad
theorem RepWs.dropLast {K : PySem.W.Frag} {s : Fs} {ws : List W} {vs : List V} (h : RepWs K CT s ws vs) : RepWs K CT s ws.dropLast vs.dropLast := by
  rw [List.dropLast_eq_take, List.dropLast_eq_take, h.length]
  exact h.take _
theorem mz_pop {K : PySem.W.Frag} : MethZ K CT rPop popW := fun s S H w v ws vs Q EX gd r1 r2 h => by
  unfold popW at h
  split at h
  · rename_i n xs e
    obtain ⟨a, us, rfl, h1, h2, h3, h4, h5, h6⟩ := liveL_ok gd r1 e
    rw [show vs = [] from r2]
    split at h
    · rename_i u eu
      obtain ⟨y, ey, ry⟩ := h6.get' eu
      exact ⟨a, us, y, rfl, rfl, h5, by rw [h6.length]; exact ey, RG.here h (gd.setC h1 trivial h2 h3 h4 (by rw [h5]; simp) ⟨h3, h4, _, upd_same, h6.dropLast⟩) ry⟩
    · exact h.elim
  · exact h.elim
/-- what may be added to a list: a list's items -/
def lstWs (S : Store) : W → Option (List W)
  | .val (.lst ps) => some (ps.map .val)
  | .loc n => match S[n]? with
    | some (.lst ws) => some ws
    | some (.frz (.lst ps)) => some (ps.map .val)
    | _ => none
  | _ => none
theorem lstWs_ok {K : PySem.W.Frag} {s : Fs} {S : Store} {H : Hp} (g : Gd K CT s S H) {w : W} {v : V} {ws : List W} (r : RepW K CT s w v) (e : lstWs S w = some ws) : ∃ a vs, v = .ref a ∧ H a = some (.lst vs) ∧ RepWs K CT s ws vs := by
  cases w with
  | val p =>
    cases p with
    | lst ps => cases e; obtain ⟨a, vs, h1, h2, h3⟩ := r; exact ⟨a, vs, h1, g.exF _ _ h2, h3.ws⟩
    | _ => cases e
  | loc n =>
    obtain ⟨a, h1, rfl⟩ := r
    unfold lstWs at e
    cases hc : S[n]? with
    | none => simp [hc] at e
    | some c =>
      have q := g.cells n _ a hc h1
      cases c with
      | ins c ns ws => simp [hc] at e
      | lst ws' => simp only [hc] at e; cases e; obtain ⟨_, _, vs, q3, q4⟩ := q; exact ⟨a, vs, rfl, q3, q4⟩
      | frz p =>
        cases p with
        | lst ps => simp only [hc] at e; cases e; obtain ⟨b, vs, hb, q3, q4⟩ := q; cases hb; exact ⟨_, vs, rfl, g.exF _ _ q3, q4.ws⟩
        | _ => simp [hc] at e
def extendW : W → List W → Store → RE W := fun o ws S => match liveL S o, ws with
  | some (n, xs), [w] => match lstWs S w with
    | some ys => if xs.length + ys.length ≤ 100000 then .ok (.val .non) (S.set n (.lst (xs ++ ys))) else .bad
    | none => .bad
  | _, _ => .bad
theorem mz_extend {K : PySem.W.Frag} : MethZ K CT rExtend extendW := fun s S H w v ws vs Q EX gd r1 r2 h => by
  unfold extendW at h
  split at h
  · rename_i n xs u e
    obtain ⟨a, us, rfl, h1, h2, h3, h4, h5, h6⟩ := liveL_ok gd r1 e
    obtain ⟨y, rfl, ry⟩ := rep1 r2
    split at h
    · rename_i ys ey
      obtain ⟨b, zs, rfl, hb, rz⟩ := lstWs_ok gd ry ey
      split at h
      · rename_i hl
        exact ⟨a, b, us, zs, rfl, rfl, h5, hb, by rw [h6.length, rz.length]; exact sz5 hl, RG.here h (gd.setC h1 trivial h2 h3 h4 (by rw [h5]; simp) ⟨h3, h4, _, upd_same, h6.append rz⟩) rfl⟩
      · exact h.elim
    · exact h.elim
  · exact h.elim
end
end Z
end
-- part Z8
section
set_option Elab.async false
set_option linter.all false
set_option maxRecDepth 100000
set_option autoImplicit false
namespace Z
open PySem PySem.Spec PyProof.Rows L2

/-! ### defs of data -/
/-- the heap without the tables of code objects -/
def noT (CT : CTb) (H : Hp) : Hp := fun b => if b ∈ CT.tabs then none else H b
def Tb (CT : CTb) (F H : Hp) : Prop := ∀ P ∈ CT.tabs, GxR.TabG H P ∧ F P = none
/-- how a call left the frozen part: nothing that stood is touched, but for the tables -/
structure Left (CT : CTb) (F H F' H' : Hp) : Prop where
  f : Ex F F'
  h : Ex (noT CT H) H'
  fh : Ex F' H'
  new : ∀ a, F a = none → noT CT H a ≠ none → F' a = none
  tab : Tb CT F' H'
def RP (K : PySem.W.Frag) (CT : CTb) (F H : Hp) (r : Rp) (Q : VK) (E : XK) : Prop := match r with
  | .ok p => ∀ F' H' v, Left CT F H F' H' → RepP K CT F' p v → Q v H'
  | .ex x => ∀ F' H' c dd, Left CT F H F' H' → RepX K CT F' x c dd → E c dd H'
  | .bad => False
def spP (K : PySem.W.Frag) (CT : CTb) (n : Nat) (g : List P → Rp) : Sp := fun vs H Q E => ∃ F ds, Ex F H ∧ Tb CT F H ∧ ds.length = n ∧ RepL K CT F ds vs ∧ RP K CT F H (g ds) Q E
def envOf (ds : List P) (m : Nat) : Env := (ds.map fun p => some (W.val p)) ++ List.replicate (m - ds.length) none
def runP (m : Nat) (body : FS) (ds : List P) : Rp := match body (envOf ds m) [] with
  | .rt w S => match frz S w with
    | some (p, _) => .ok p
    | none => .bad
  | .nx _ _ => .ok .non
  | .ex x _ _ => .ex x
  | _ => .bad
def liftP (r : Rp) (S : Store) : RE W := match r with
  | .ok p => .ok (.val p) S
  | .ex x => .ex x S
  | .bad => .bad
section
variable {K : PySem.W.Frag} {CT : CTb}
theorem envOf_ok {F G : Hp} {ds : List P} {vs : List V} {N : List Str} {m : List Addr} (r : RepL K CT F ds vs) : EnvOk K CT ⟨G, F, m⟩ (envOf ds N.length) (start N vs) := by
  refine ⟨by simp [envOf, L2.start, r.length], fun i w e => ?_⟩
  unfold envOf at e
  unfold L2.start
  by_cases hi : i < ds.length
  · rw [List.getElem?_append_left (by simpa using hi), List.getElem?_map] at e
    cases ed : ds[i]? with
    | none => rw [ed] at e; cases e
    | some p =>
      rw [ed] at e
      cases e
      obtain ⟨v, ev, rv⟩ := r.get' ed
      exact ⟨v, by rw [List.getElem?_append_left (by simpa [r.length] using hi), List.getElem?_map, ev]; rfl, rv⟩
  · rw [List.getElem?_append_right (by simpa using Nat.le_of_not_lt hi), List.getElem?_replicate] at e
    split at e <;> cases e
theorem noT_ex (H : Hp) : Ex (noT CT H) H := fun a o e => by
  unfold noT at e
  split at e
  · cases e
  · exact e
theorem noT_at {H : Hp} {a : Addr} (h : a ∉ CT.tabs) : noT CT H a = H a := by unfold noT; rw [if_neg h]
theorem noT_tab {H : Hp} {P : Addr} (h : P ∈ CT.tabs) : noT CT H P = none := by unfold noT; rw [if_pos h]
theorem Gd.start {F H : Hp} (e : Ex F H) (t : Tb CT F H) : Gd K CT ⟨noT CT H, F, []⟩ [] H := ⟨e, noT_ex H, rfl, fun n c a h => by simp at h, fun n n' c c' a h => by simp at h, fun P hP => (t P hP).1, fun P hP => (t P hP).2, fun P hP => noT_tab hP⟩
theorem Gd.tb {s : Fs} {S : Store} {H : Hp} (g : Gd K CT s S H) : Tb CT s.F H := fun P hP => ⟨g.tab P hP, g.notF P hP⟩
theorem left_of {F H : Hp} {s' : Fs} {S' : Store} {H' : Hp} (x : Ext ⟨noT CT H, F, []⟩ s') (g : Gd K CT s' S' H') : Left CT F H s'.F H' := ⟨x.f, by have := g.exG; rw [← x.g] at this; exact this, g.exF, x.new, g.tb⟩
/-- what a call leaves -/
theorem Gd.growT {s : Fs} {S : Store} {H F' H' : Hp} (g : Gd K CT s S H) (l : Left CT s.F H F' H') : Gd K CT { s with F := F' } S H' ∧ Ext s { s with F := F' } := by
  have nt : ∀ a, s.G a ≠ none → a ∉ CT.tabs := fun a h z => h (g.notG a z)
  have x : Ext s { s with F := F' } := ⟨rfl, l.f, fun _ _ h => h, fun a h hg => l.new a h (by
    rw [noT_at (nt a hg)]
    cases q : s.G a with
    | none => exact absurd q hg
    | some o => rw [g.exG a o q]; simp)⟩
  have cn : ∀ a, (∃ o, H a = some o ∧ ∀ ps, o ≠ .tbl ps) → a ∉ CT.tabs := fun a ⟨o, h, n⟩ z => by
    obtain ⟨ps, hp, _⟩ := g.tab a z
    rw [hp] at h; cases h; exact n ps rfl
  refine ⟨⟨l.fh, fun a o e => l.h a o (by rw [noT_at (nt a (by rw [e]; simp))]; exact g.exG a o e), g.len, fun n c a h1 h2 => ?_, g.inj, fun P hP => (l.tab P hP).1, fun P hP => (l.tab P hP).2, g.notG⟩, x⟩
  have q := g.cells n c a h1 h2
  cases c with
  | lst ws =>
    obtain ⟨q1, q2, vs, q3, q4⟩ := q
    have na := cn a ⟨_, q3, fun ps z => by cases z⟩
    exact ⟨l.new a q1 (by rw [noT_at na, q3]; simp), q2, vs, l.h _ _ (by rw [noT_at na]; exact q3), q4.mono x⟩
  | ins c ns ws =>
    obtain ⟨q1, q2, dx, vs, q3, ql, q4⟩ := q
    have na := cn a ⟨_, q3, fun ps z => by cases z⟩
    exact ⟨l.new a q1 (by rw [noT_at na, q3]; simp), q2, dx, vs, l.h _ _ (by rw [noT_at na]; exact q3), ql, q4.mono x⟩
  | frz p => exact RepP.mono l.f q
/-- a def's body, wherever it runs -/
def DefOk (P' : Program) (w : World) (K : PySem.W.Frag) (mg : Str → Option Value) (base : Heap) (CT : CTb) (N : List Str) (qual : Str) (st : Stmt) (f : Addr) (k : Nat) (body : FS) : Prop :=
  ∀ (cdv : Value) (A : Around) (s : Shared) (H : Hp) (E : XK) (o : List PySem.Env), Room k (cxOf (L2.CX P' w) P' w K mg base N qual (defScope st) f cdv A o s H E).A →
    Takes (cxOf (L2.CX P' w) P' w K mg base N qual (defScope st) f cdv A o s H E) (fun c d _ H => E c d H) →
    PassesOwn (model P' w) (cxOf (L2.CX P' w) P' w K mg base N qual (defScope st) f cdv A o s H E).A (cxOf (L2.CX P' w) P' w K mg base N qual (defScope st) f cdv A o s H E).env (cxOf (L2.CX P' w) P' w K mg base N qual (defScope st) f cdv A o s H E).xe →
      PZSs (cxOf (L2.CX P' w) P' w K mg base N qual (defScope st) f cdv A o s H E) CT (fun c d _ H => E c d H) (defBody st) body
/-- THE RULE for a def of data -/
theorem fn_pure {P' : Program} {w : World} {mg : Str → Option Value} {base : Heap} {x qual : Str} {st : Stmt} {f : Addr} {fd : FuncData} {N ps : List Str} {k : Nat} {body : FS} {dvs : List V} {kws : List (Str × V)} (F : FunD K x qual (defArgs st) (defBody st) (defScope st) dvs kws f fd) (S : FnScope N ps (defScope st))
    (hb : DefOk P' w K mg base CT N qual st f k body) : FnOk P' w K mg base (L2.CX P' w) (k + 1) f fd ps (spP K CT ps.length (runP N.length body)) := by
  refine F.ok S (fun vs H Q E ⟨F, ds, _, _, hl, r, _⟩ => by rw [r.length, hl]) fun cdv A outer s H vs Q E hr hsp => ⟨_, hb cdv A s H E outer hr (takes_of rfl rfl rfl rfl) (passes_of rfl), ?_⟩
  obtain ⟨F0, ds, eF, tb, hl, r, h⟩ := hsp
  refine ⟨⟨noT CT H, F0, []⟩, [], envOf ds N.length, Gd.start eF tb, envOf_ok r, ?_⟩
  unfold runP at h
  cases er : body (envOf ds N.length) [] with
  | nx ρ' S' => rw [er] at h; exact fun s' H' σ' x g en => h s'.F H' _ (left_of x g) rfl
  | rt w S' =>
    rw [er] at h
    intro s' H' v x g rw
    simp only at h
    cases ef : frz S' w with
    | none => rw [ef] at h; exact h.elim
    | some q =>
      obtain ⟨p, S2⟩ := q
      rw [ef] at h
      obtain ⟨s2, x2, g2, r2⟩ := frz_ok g rw ef
      exact h s2.F H' v (left_of (x.trans x2) g2) r2
  | ex x ρ' S' => rw [er] at h; exact fun s' H' σ' c dd x g en q => h s'.F H' c dd (left_of x g) q
  | bk ρ' S' => rw [er] at h; exact h.elim
  | ct ρ' S' => rw [er] at h; exact h.elim
  | bad => rw [er] at h; exact h.elim
/-- a call, from the caller's state -/
theorem RG.call {s : Fs} {S : Store} {H : Hp} {r : Rp} {Q : VK} {EX : XK} (g : Gd K CT s S H) (h : RG K CT (RepW K CT) s (liftP r S) Q EX) : RP K CT s.F H r Q EX := by
  cases r with
  | ok p =>
    intro F' H' v l rv
    obtain ⟨g', x⟩ := g.growT l
    exact h _ _ _ x g' rv
  | ex x =>
    intro F' H' c dd l rv
    obtain ⟨g', x'⟩ := g.growT l
    exact h _ _ _ _ x' g' rv
  | bad => exact h
end
def eCall (n : Nat) (g : List P → Rp) (fa : FE (List W)) : FE W := fun ρ S => (fa ρ S).bind fun ws S1 => (doFrzs ws S1).bind fun ps S2 => if ps.length = n then liftP (g ps) S2 else .bad
section
variable {X : Cx} {CT : CTb} {U : WX} {e o : Expr} {es : List Expr} {fo : FE W} {ga : FE (List W)} {pos p apos : Pos} {x m c : Str} {k n : Nat} {f : Addr} {fd : FuncData} {ps : List Str} {g : List P → Rp}
theorem pz_call (F : FnOk X.prog X.w X.K X.mg X.base (L2.CX X.prog X.w) k f fd ps (spP X.K CT n g)) (hr : Room k X.A) (hg : Gl X x) (hm : X.mg x = some (.ref f)) (hk : PySem.W.keepIn X.K (.ref f) = true) (hb : Binds X.K fd ps []) (tk : Takes X U)
    (ha : PZA X CT U (e :: es) ga) (hdb : (x == ("__debug__" : Str)) = false := by decide) (he : starEach (e :: es) X.env = (false, eval e X.env) :: starEach es X.env := by rfl) (hpl : (backTo pos (starEach es X.env)).any (·.1) = false := by rfl) :
    PZ X CT U (.Call (.Name x p) (e :: es) [] pos) (eCall n g ga) := weakE (pe_callS F hr hg hm hk hb (fun σ => passAt tk σ) ha hdb he hpl) fun σ H Q ⟨s, S, ρ, gd, en, h⟩ =>
  ⟨s, S, ρ, gd, en, RG.step h fun ws S1 s1 H1 vs x1 g1 r1 h1 => by
    obtain ⟨ps, S2, s2, x2, g2, r2, h2⟩ := RG.frzs g1 r1 h1
    split at h2
    · rename_i hl
      exact ⟨s2.F, ps, g2.exF, g2.tb, hl, r2, RG.call g2 h2⟩
    · exact h2.elim⟩
/-! methods, at the slots -/
def tMethS (C : Addr) (m : Str) (sp : Sp) (E : L2.St → XK) (ta : TE) (t : TA) : TE := fun σ H Q => ta σ H fun x H1 => ∃ a dx fs, x = .ref a ∧ H1 a = some (.ins C dx fs) ∧ fs.lookup m = none ∧
  t σ H1 fun vs H2 => sp (x :: vs) H2 Q (E σ)
theorem pe_methS {C : Addr} {CX : CXT} {sp : Sp} {E : L2.St → XK} {ta : TE} {t : TA} {pl : Sem Bool} (he : PE X o ta) (c : Cls X.K C) (hm : Meth X.K C m f) (F : FnOk X.prog X.w X.K X.mg X.base CX k f fd ps sp) (hr : Room k X.A) (hb : Binds X.K fd ps []) (hx : ∀ σ, PassesAt CX X σ (E σ)) (ha : PA X (e :: es) t)
    (hst : starEach (e :: es) X.env = (false, eval e X.env) :: starEach es X.env := by rfl) (hpl : (backTo pos (starEach es X.env)).any (·.1) = false := by rfl)
    (ht : eval (.Call (.Attribute o m apos) (e :: es) [] pos) X.env = (do
      let ov ← eval o X.env
      standAt apos.atName
      let (f, first) ← holding [ov] (getMethod ov m pl)
      callWith pos f first (backTo pos (starEach (e :: es) X.env)) (backToKw pos (keywordEach [] X.env))) := by rfl) :
    PE X (.Call (.Attribute o m apos) (e :: es) [] pos) (tMethS C m sp E ta t) := by
  refine ⟨fun pins s σ H Q I h => ?_⟩
  refine PySem.W.methodCall_KW (pl := pl) (thn (he.run pins s σ H _ I h) fun u s1 ⟨x, H1, I1, rx, a, dx, fs, ex, ea, l, q⟩ => ?_) ht
  subst ex
  obtain rfl : u = Value.ref a := rx
  refine getmeth_ok I1 ea c hm l ?_
  refine PySem.W.callWith_K (first := [.ref a]) (h₀ := X.base) I.ok.mod.kin hm.kp (thn (ha.run pos pins s1 σ H1 _ I1 q) fun us s2 ⟨vs, H2, I2, r, q2⟩ => ⟨I2.kIn, ?_⟩) hst hpl
  exact run_fnS (us := .ref a :: us) (vs := .ref a :: vs) F hr hb (hx σ) I2 (.cons rfl r) q2
theorem pe_methS0 {C : Addr} {CX : CXT} {sp : Sp} {E : L2.St → XK} {ta : TE} {pl : Sem Bool} (he : PE X o ta) (c : Cls X.K C) (hm : Meth X.K C m f) (F : FnOk X.prog X.w X.K X.mg X.base CX k f fd ps sp) (hr : Room k X.A) (hb : Binds X.K fd ps []) (hx : ∀ σ, PassesAt CX X σ (E σ))
    (ht : eval (.Call (.Attribute o m apos) [] [] pos) X.env = (do
      let ov ← eval o X.env
      standAt apos.atName
      let (f, first) ← holding [ov] (getMethod ov m pl)
      callWith pos f first (backTo pos (starEach [] X.env)) (backToKw pos (keywordEach [] X.env))) := by rfl) :
    PE X (.Call (.Attribute o m apos) [] [] pos) (tMethS C m sp E ta tNil) := by
  refine ⟨fun pins s σ H Q I h => ?_⟩
  refine PySem.W.methodCall_KW (pl := pl) (thn (he.run pins s σ H _ I h) fun u s1 ⟨x, H1, I1, rx, a, dx, fs, ex, ea, l, q⟩ => ?_) ht
  subst ex
  obtain rfl : u = Value.ref a := rx
  refine getmeth_ok I1 ea c hm l ?_
  exact PySem.W.callWith_K0 (first := [.ref a]) I1.kIn hm.kp (run_fnS (us := [.ref a]) (vs := [.ref a]) F hr hb (hx σ) I1 (.cons rfl .nil) q)
/-- a method of data: the instance is frozen first -/
def eMeth (c m : Str) (n : Nat) (g : List P → Rp) (fo : FE W) (fa : FE (List W)) : FE W := fun ρ S => (fo ρ S).bind fun w S1 => (doFrz w S1).bind fun p S2 => match p with
  | .obj c' ns qs => if c' = c ∧ ns.contains m = false then (fa ρ S2).bind fun ws S3 => (doFrzs ws S3).bind fun ps S4 => if ps.length + 1 = n then liftP (g (.obj c' ns qs :: ps)) S4 else .bad else .bad
  | _ => .bad
theorem meth_can {sp : Sp} (hsp : sp = spP X.K CT n g) {σ : L2.St} {H : Hp} {Q : VK} (h : canE X.K CT U (eMeth c m n g fo ga) σ H Q) : tMethS (CT c) m sp (WE U) (canE X.K CT U fo) (canA X.K CT U ga) σ H Q := by
  subst hsp
  obtain ⟨s, S, ρ, gd, en, h⟩ := h
  refine ⟨s, S, ρ, gd, en, RG.step h fun w S1 s1 H1 v x1 g1 r1 h1 => ?_⟩
  obtain ⟨p, S2, s2, x2, g2, r2, h2⟩ := RG.frz g1 r1 h1
  split at h2
  · rename_i c' ns qs
    split at h2
    · rename_i hc
      obtain ⟨rfl, hns⟩ := hc
      have r2' := r2
      obtain ⟨a, dx, vs, rfl, q1, ql, q2⟩ := r2
      refine ⟨a, dx, _, rfl, g2.exF _ _ q1, look_none hns, s2, S2, ρ, g2, (en.mono x1).mono x2, RG.step h2 fun ws S3 s3 H3 us x3 g3 r3 h3 => ?_⟩
      obtain ⟨ps, S4, s4, x4, g4, r4, h4⟩ := RG.frzs g3 r3 h3
      split at h4
      · rename_i hl
        exact ⟨s4.F, .obj c' ns qs :: ps, g4.exF, g4.tb, by simpa using hl, ⟨_, _, rfl, (r2'.mono x3.f).mono x4.f, r4⟩, RG.call g4 h4⟩
      · exact h4.elim
    · exact h2.elim
  · exact h2.elim
theorem pz_meth {pl : Sem Bool} (cl : Cls X.K (CT c)) (hm : Meth X.K (CT c) m f) (F : FnOk X.prog X.w X.K X.mg X.base (L2.CX X.prog X.w) k f fd ps (spP X.K CT n g)) (hr : Room k X.A) (hb : Binds X.K fd ps []) (tk : Takes X U) (ho : PZ X CT U o fo) (ha : PZA X CT U (e :: es) ga)
    (hst : starEach (e :: es) X.env = (false, eval e X.env) :: starEach es X.env := by rfl) (hpl : (backTo pos (starEach es X.env)).any (·.1) = false := by rfl)
    (ht : eval (.Call (.Attribute o m apos) (e :: es) [] pos) X.env = (do
      let ov ← eval o X.env
      standAt apos.atName
      let (f, first) ← holding [ov] (getMethod ov m pl)
      callWith pos f first (backTo pos (starEach (e :: es) X.env)) (backToKw pos (keywordEach [] X.env))) := by rfl) : PZ X CT U (.Call (.Attribute o m apos) (e :: es) [] pos) (eMeth c m n g fo ga) :=
  weakE (pe_methS (pl := pl) ho cl hm F hr hb (fun σ => passAt tk σ) ha hst hpl ht) fun σ H Q h => meth_can rfl h
theorem pz_meth0 {pl : Sem Bool} (cl : Cls X.K (CT c)) (hm : Meth X.K (CT c) m f) (F : FnOk X.prog X.w X.K X.mg X.base (L2.CX X.prog X.w) k f fd ps (spP X.K CT n g)) (hr : Room k X.A) (hb : Binds X.K fd ps []) (tk : Takes X U) (ho : PZ X CT U o fo)
    (ht : eval (.Call (.Attribute o m apos) [] [] pos) X.env = (do
      let ov ← eval o X.env
      standAt apos.atName
      let (f, first) ← holding [ov] (getMethod ov m pl)
      callWith pos f first (backTo pos (starEach [] X.env)) (backToKw pos (keywordEach [] X.env))) := by rfl) : PZ X CT U (.Call (.Attribute o m apos) [] [] pos) (eMeth c m n g fo aNil) :=
  weakE (pe_methS0 (pl := pl) ho cl hm F hr hb (fun σ => passAt tk σ) ht) fun σ H Q h => by
    have := meth_can (ga := aNil) rfl h
    obtain ⟨s, S, ρ, gd, en, h⟩ := h
    refine ⟨s, S, ρ, gd, en, RG.step h fun w S1 s1 H1 v x1 g1 r1 h1 => ?_⟩
    obtain ⟨p, S2, s2, x2, g2, r2, h2⟩ := RG.frz g1 r1 h1
    split at h2
    · rename_i c' ns qs
      split at h2
      · rename_i hc
        obtain ⟨rfl, hns⟩ := hc
        have r2' := r2
        obtain ⟨a, dx, vs, rfl, q1, ql, q2⟩ := r2
        refine ⟨a, dx, _, rfl, g2.exF _ _ q1, look_none hns, ?_⟩
        simp only [aNil, RE.bind, doFrzs, Z.frzs] at h2
        split at h2
        · rename_i hl
          exact ⟨s2.F, [.obj c' ns qs], g2.exF, g2.tb, by simpa using hl, ⟨_, _, rfl, r2', rfl⟩, RG.call g2 h2⟩
        · exact h2.elim
      · exact h2.elim
    · exact h2.elim

/-! ### instances made: of data -/
/-- __init__'s promise -/
def spI (K : PySem.W.Frag) (CT : CTb) (c : Str) (n : Nat) (g : List P → Rp) : Sp := fun vs H Q E => ∃ F ds a dx vs', vs = .ref a :: vs' ∧ Ex F H ∧ Tb CT F H ∧ F a = none ∧ H a = some (.ins (CT c) dx []) ∧ ds.length = n ∧ RepL K CT F ds vs' ∧
  RP K CT F (fun b => if b = a then none else H b) (g ds) (fun v H' => v = .ref a → Q .non H') E
def runI (c : Str) (m : Nat) (body : FS) (ds : List P) : Rp := match body (some (.loc 0) :: envOf ds (m - 1)) [.ins c [] []] with
  | .nx _ S => match frz S (.loc 0) with
    | some (p, _) => .ok p
    | none => .bad
  | .rt (.val .non) S => match frz S (.loc 0) with
    | some (p, _) => .ok p
    | none => .bad
  | .ex x _ _ => .ex x
  | _ => .bad
theorem fn_init {K : PySem.W.Frag} {P' : Program} {w : World} {mg : Str → Option Value} {base : Heap} {qual : Str} {st : Stmt} {N ps : List Str} {body : FS} {dvs : List V} {kws : List (Str × V)} (F : FunD K x qual (defArgs st) (defBody st) (defScope st) dvs kws f fd) (S : FnScope N ps (defScope st)) (hN : N.length = N.length - 1 + 1) (hps : ps.length = n + 1)
    (hb : DefOk P' w K mg base CT N qual st f k body) : FnOk P' w K mg base (L2.CX P' w) (k + 1) f fd ps (spI K CT c n (runI c N.length body)) := by
  refine F.ok S (fun vs H Q E ⟨F, ds, a, dx, vs', e, _, _, _, _, hl, r, _⟩ => by rw [e, List.length_cons, r.length, hl, hps]) fun cdv A outer s H vs Q E hr hsp => ⟨_, hb cdv A s H E outer hr (takes_of rfl rfl rfl rfl) (passes_of rfl), ?_⟩
  obtain ⟨F0, ds, a, dx, vs', rfl, eF, tb, Fa, Ha, hl, r, h⟩ := hsp
  generalize hHm : (fun b => if b = a then none else H b : Hp) = Hm at h
  have aT : a ∉ CT.tabs := fun z => by
    obtain ⟨⟨ps, hp, _⟩, _⟩ := tb a z
    rw [Ha] at hp; cases hp
  have eGa : noT CT Hm a = none := by rw [noT_at aT, ← hHm]; simp
  have eG : Ex (noT CT Hm) H := fun b o e => by
    have e := noT_ex Hm b o e
    rw [← hHm] at e
    by_cases q : b = a
    · simp [q] at e
    · simpa [q] using e
  have g0 : Gd K CT ⟨noT CT Hm, F0, [a]⟩ [.ins c [] []] H := by
    refine ⟨eF, eG, rfl, fun i cl b h1 h2 => ?_, fun i j c1 c2 b h1 h2 l1 l2 e1 e2 => ?_, fun P hP => (tb P hP).1, fun P hP => (tb P hP).2, fun P hP => noT_tab hP⟩
    · cases i with
      | zero => cases h1; cases h2; exact ⟨Fa, eGa, dx, [], Ha, rfl, rfl⟩
      | succ i => simp at h1
    · cases i with
      | zero =>
        cases j with
        | zero => rfl
        | succ j => simp at h2
      | succ i => simp at h1
  have en0 : EnvOk K CT ⟨noT CT Hm, F0, [a]⟩ (some (.loc 0) :: envOf ds (N.length - 1)) (start N (.ref a :: vs')) := by
    have lz := r.length
    refine ⟨by simp [envOf, L2.start]; omega, fun i w e => ?_⟩
    cases i with
    | zero =>
      cases e
      exact ⟨.ref a, rfl, a, rfl, rfl⟩
    | succ i =>
      have e' : (envOf ds (N.length - 1))[i]? = some (some w) := by simpa using e
      have q := (envOf_ok (N := N.drop 1) (G := noT CT Hm) (m := [a]) r).get i w (by simpa using e')
      obtain ⟨v, hv, rv⟩ := q
      refine ⟨v, ?_, rv⟩
      have : start N (.ref a :: vs') = some (.ref a) :: start (N.drop 1) vs' := by
        unfold L2.start
        rw [List.map_cons, List.cons_append, List.length_cons, List.length_drop]
        congr 3
        omega
      rw [this]
      simpa using hv
  have lf : ∀ {s' : Fs} {S' : Store} {H' : Hp}, Ext ⟨noT CT Hm, F0, [a]⟩ s' → Gd K CT s' S' H' → Left CT F0 Hm s'.F H' := fun x g => ⟨x.f, by have := g.exG; rw [← x.g] at this; exact this, g.exF, x.new, g.tb⟩
  refine ⟨_, _, _, g0, en0, ?_⟩
  unfold runI at h
  have fin : ∀ {S' : Store} {s' : Fs} {H' : Hp}, Ext ⟨noT CT Hm, F0, [a]⟩ s' → Gd K CT s' S' H' → RP K CT F0 Hm (match frz S' (.loc 0) with | some (p, _) => .ok p | none => .bad) (fun v H' => v = .ref a → Q .non H') E → Q .non H' := fun {S' s' H'} x g h => by
    cases ef : frz S' (.loc 0) with
    | none => rw [ef] at h; exact h.elim
    | some q =>
      obtain ⟨p, S2⟩ := q
      rw [ef] at h
      obtain ⟨s2, x2, g2, r2⟩ := frz_ok (w := .loc 0) (v := .ref a) g ⟨a, x.m 0 a rfl, rfl⟩ ef
      exact h s2.F H' (.ref a) (lf (x.trans x2) g2) r2 rfl
  cases er : body (some (.loc 0) :: envOf ds (N.length - 1)) [.ins c [] []] with
  | nx ρ' S' => rw [er] at h; exact fun s' H' σ' x g en => fin x g h
  | rt w S' =>
    rw [er] at h
    intro s' H' v x g rv
    cases w with
    | loc n => exact h.elim
    | val p =>
      cases p with
      | non => rw [show v = _ from rv]; exact fin x g h
      | _ => exact h.elim
  | ex x ρ' S' => rw [er] at h; exact fun s' H' σ' c dd x g en q => h s'.F H' c dd (lf x g) q
  | bk ρ' S' => rw [er] at h; exact h.elim
  | ct ρ' S' => rw [er] at h; exact h.elim
  | bad => rw [er] at h; exact h.elim
/-! C(..) at the slots -/
def tMakeS (C : Addr) (sp : Sp) (E : L2.St → XK) (t : TA) : TE := fun σ H Q => t σ H fun vs H1 => ∀ x dx, H1 x = none → H1 dx = none → dx ≠ x →
  sp (.ref x :: vs) (upd (upd H1 dx (.own x)) x (.ins C dx [])) (fun v H2 => v = .non ∧ Q (.ref x) H2) (E σ)
theorem run_makeS {C : Addr} {CX : CXT} {sp : Sp} {E : L2.St → XK} {pins : List (Addr × Obj)} {σ : L2.St} {H : Hp} {s : Shared} {Q : VK} {us : List Value} {vs : List V} (M : Mk X.K C f) (F : FnOk X.prog X.w X.K X.mg X.base CX k f fd ps sp) (hr : Room (k + 1) X.A) (hb : Binds X.K fd ps [])
    (hx : ∀ σ, PassesAt CX X σ (E σ)) (I : Inv X pins σ H s) (r : Vals vs us)
    (h : ∀ x dx, H x = none → H dx = none → dx ≠ x → sp (.ref x :: vs) (upd (upd H dx (.own x)) x (.ins C dx [])) (fun v H2 => v = .non ∧ Q (.ref x) H2) (E σ)) :
    wpAny (model X.prog X.w) X.A (call (.ref C) us) (EP X pins σ Q) X.xe s := by
  have hq := h (s.heap.objs.size + 1) s.heap.objs.size (I.hok.fresh (Nat.le_succ _)) (I.hok.fresh (Nat.le_refl _)) (Nat.ne_of_lt (Nat.lt_succ_self _))
  have I2 := Inv.made (C := C) I
  have r2 : Vals (V.ref (s.heap.objs.size + 1) :: vs) (Value.ref (s.heap.objs.size + 1) :: us) := .cons rfl r
  have hl : (Value.ref (s.heap.objs.size + 1) :: us ++ []).length = ps.length := by
    have e := r2.length
    rw [F.len _ _ _ _ hq] at e
    rw [List.append_nil]
    exact e.symm
  have hbb := hb ⟨_, _, _, _, _⟩ (Value.ref (s.heap.objs.size + 1) :: us) I2.kIn hl
  rw [List.append_nil] at hbb
  refine wpAny_call (make_map (f := f) I.kIn M.makes M.init (beq_iff_eq.mp M.fn) (codeAny_mono (F.run _ X.stack _ _ ⟨Value.ref (s.heap.objs.size + 1) :: us, []⟩ (Value.ref (s.heap.objs.size + 1) :: us) _ _ (E σ) (hr.make C us [])
    (I2.env0.make C us []) hbb r2 hq) fun r s' hq' => ?_))
  cases r with
  | error e => exact hx σ pins _ _ e s' I2 hq'
  | ok fl =>
    cases fl with
    | ret u =>
      obtain ⟨v, H', I3, rv, ev, q3⟩ := I2.after hq'
      subst ev
      exact ⟨rv, ⟨V.ref (s.heap.objs.size + 1), H', I3, rfl, q3⟩⟩
    | next => exact False.elim hq'
    | brk => exact False.elim hq'
    | cont => exact False.elim hq'
theorem pe_makeS {C : Addr} {CX : CXT} {sp : Sp} {E : L2.St → XK} {t : TA} (M : Mk X.K C f) (F : FnOk X.prog X.w X.K X.mg X.base CX k f fd ps sp) (hr : Room (k + 1) X.A) (hg : Gl X x) (hm : X.mg x = some (.ref C)) (hb : Binds X.K fd ps []) (hx : ∀ σ, PassesAt CX X σ (E σ))
    (ha : PA X (e :: es) t) (hdb : (x == ("__debug__" : Str)) = false := by decide) (he : starEach (e :: es) X.env = (false, eval e X.env) :: starEach es X.env := by rfl) (hpl : (backTo pos (starEach es X.env)).any (·.1) = false := by rfl) :
    PE X (.Call (.Name x p) (e :: es) [] pos) (tMakeS C sp E t) := by
  refine ⟨fun pins s σ H Q I h => ?_⟩
  refine wpAny_Call_Name_kw (ld_glob I hg hm ?_ hdb)
  refine PySem.W.callWith_K (h₀ := X.base) I.ok.mod.kin M.kp (thn (ha.run pos pins s σ H _ I h) fun us s1 ⟨vs, H1, I1, r, q⟩ => ⟨I1.kIn, ?_⟩) he hpl
  exact run_makeS M F hr hb hx I1 r q
theorem pz_new (M : Mk X.K (CT c) f) (F : FnOk X.prog X.w X.K X.mg X.base (L2.CX X.prog X.w) k f fd ps (spI X.K CT c n g)) (hr : Room (k + 1) X.A) (hg : Gl X x) (hm : X.mg x = some (.ref (CT c))) (hb : Binds X.K fd ps []) (tk : Takes X U)
    (ha : PZA X CT U (e :: es) ga) (hdb : (x == ("__debug__" : Str)) = false := by decide) (he : starEach (e :: es) X.env = (false, eval e X.env) :: starEach es X.env := by rfl) (hpl : (backTo pos (starEach es X.env)).any (·.1) = false := by rfl) :
    PZ X CT U (.Call (.Name x p) (e :: es) [] pos) (eCall n g ga) := weakE (pe_makeS M F hr hg hm hb (fun σ => passAt tk σ) ha hdb he hpl) fun σ H Q ⟨s, S, ρ, gd, en, h⟩ =>
  ⟨s, S, ρ, gd, en, RG.step h fun ws S1 s1 H1 vs x1 g1 r1 h1 => by
    obtain ⟨ps, S2, s2, x2, g2, r2, h2⟩ := RG.frzs g1 r1 h1
    split at h2
    · rename_i hl
      intro a dx ha hdx hne
      have hb := RG.call g2 h2
      have eH : Ex H1 (upd (upd H1 dx (.own a)) a (.ins (CT c) dx [])) := fun b o e => by rw [upd_ne (ne_of_none e ha), upd_ne (ne_of_none e hdx)]; exact e
      refine ⟨s2.F, ps, a, dx, vs, rfl, g2.exF.trans eH, (fun P hP => ⟨tab_ex eH (g2.tab P hP), g2.notF P hP⟩), g2.exF.back ha, upd_same, hl, r2, ?_⟩
      have lf : ∀ {F' H' : Hp}, Left CT s2.F (fun b => if b = a then none else upd (upd H1 dx (.own a)) a (.ins (CT c) dx []) b) F' H' → Left CT s2.F H1 F' H' := fun l => by
        have key : ∀ b o, noT CT H1 b = some o → noT CT (fun b => if b = a then none else upd (upd H1 dx (.own a)) a (.ins (CT c) dx []) b) b = some o := fun b o e => by
          have nt : b ∉ CT.tabs := fun z => by rw [noT_tab z] at e; cases e
          rw [noT_at nt] at e ⊢
          have := ne_of_none e ha
          rw [if_neg this]; exact eH b o e
        exact ⟨l.f, fun b o e => l.h b o (key b o e), l.fh, fun b q1 q2 => l.new b q1 (by
          cases e : noT CT H1 b with
          | none => exact absurd e q2
          | some o => rw [key b o e]; simp), l.tab⟩
      cases er : g ps with
      | ok q =>
        rw [er] at hb
        intro F' H' v l rv e
        subst e
        exact ⟨rfl, hb F' H' _ (lf l) rv⟩
      | ex x => rw [er] at hb; exact fun F' H' c dd l rv => hb F' H' c dd (lf l) rv
      | bad => rw [er] at hb; exact hb.elim
    · exact h2.elim⟩
/-! ### raise X("..") of an own class without __init__ -/
def sRaise (c : Str) : FS := fun ρ S => .ex ⟨c, [], []⟩ ρ S
theorem zs_raise {W : WX} (hc : X.calm = true) (tk : Takes X U) (he : PMk X e (fun _ H Q => Q (.ref (CT c)) none H)) : PZS X CT U (.Raise (some e) none pos) (sRaise c) := weakS (ps_raise hc tk he) fun D σ H ⟨s, S, ρ, gd, en, h⟩ =>
  h s H σ _ _ (Ext.refl s) gd en ⟨rfl, .inl ⟨rfl, rfl, rfl⟩⟩
end
end Z
end
-- part Z9
section
set_option Elab.async false
set_option linter.all false
set_option maxRecDepth 100000
set_option autoImplicit false
namespace Z
open PySem PySem.Spec PyProof.Rows L2
/-! ### isinstance against a built-in type -/
def tyN : P → Option String
  | .non => some "NoneType"
  | .bl _ => some "bool"
  | .int _ => some "int"
  | .str _ => some "str"
  | .tup _ => some "tuple"
  | .lst _ => some "list"
  | .scr _ => some "list"
  | _ => none
def tyW (S : Store) : W → Option String
  | .val p => tyN p
  | .loc n => match S[n]? with
    | some (.lst _) => some "list"
    | some (.frz (.lst _)) => some "list"
    | _ => none
def isi (t T : String) : Bool := t == T || (t == "bool" && T == "int")
def isiW (T : String) : W → Store → RE W := fun w S => orBad ((tyW S w).map fun t => .val (.bl (isi t T))) S
def KitT (T : String) : Prop := ∀ t ∈ ["NoneType", "bool", "int", "str", "tuple", "list"], kitB t T = some (isi t T)
theorem kit_bool : KitT "bool" := by unfold KitT; decide +kernel
theorem kit_int : KitT "int" := by unfold KitT; decide +kernel
theorem kit_str : KitT "str" := by unfold KitT; decide +kernel
theorem kit_list : KitT "list" := by unfold KitT; decide +kernel
theorem kit_tuple : KitT "tuple" := by unfold KitT; decide +kernel
theorem kit_dict : KitT "dict" := by unfold KitT; decide +kernel
section
variable {X : Cx} {CT : CTb} {U : WX} {a : Expr} {fa : FE W} {pos p p2 : Pos} {T : Str} {TN : String}
theorem tyW_ok {K : PySem.W.Frag} {s : Fs} {S : Store} {H : Hp} (g : Gd K CT s S H) {w : W} {v : V} {t : String} (r : RepW K CT s w v) (e : tyW S w = some t) : TyX K H v (.type t) ∧ t ∈ ["NoneType", "bool", "int", "str", "tuple", "list"] := by
  cases w with
  | val p =>
    cases p with
    | non => cases e; rw [show v = _ from r]; exact ⟨.base .non, by decide⟩
    | bl b => cases e; rw [show v = _ from r]; exact ⟨.base (.bl b), by decide⟩
    | int b => cases e; rw [show v = _ from r]; exact ⟨.base (.int b), by decide⟩
    | str b => cases e; rw [show v = _ from r]; exact ⟨.base (.str b), by decide⟩
    | tup ps =>
      cases e
      obtain ⟨a, vs, rfl, h1, _⟩ := r
      refine ⟨?_, by decide⟩
      rcases g.exF.st h1 with (h | ⟨o, h⟩) | ⟨o, its, n, h, hc, _⟩
      · exact .base (.tup h)
      · exact .fTuple h
      · exact .kTuple h hc
    | lst ps => cases e; obtain ⟨a, vs, rfl, h1, _⟩ := r; exact ⟨.base (.lst (g.exF _ _ h1)), by decide⟩
    | scr ns =>
      cases e
      obtain ⟨a, rfl, h1⟩ := r
      refine ⟨?_, by decide⟩
      rcases g.exF.sl h1 with (h | ⟨o, h⟩) | ⟨o, its, n, h, hc, _⟩
      · exact .base (.lst h)
      · exact .base (.frz h)
      · exact .kList h hc
    | _ => cases e
  | loc n =>
    obtain ⟨a, h1, rfl⟩ := r
    unfold tyW at e
    cases hc : S[n]? with
    | none => simp [hc] at e
    | some c =>
      have q := g.cells n _ a hc h1
      cases c with
      | ins c ns ws => simp [hc] at e
      | lst ws' => simp only [hc] at e; cases e; obtain ⟨_, _, vs, q3, q4⟩ := q; exact ⟨.base (.lst q3), by decide⟩
      | frz p =>
        cases p with
        | lst ps => simp only [hc] at e; cases e; obtain ⟨b, vs, hb, q3, q4⟩ := q; cases hb; exact ⟨.base (.lst (g.exF _ _ q3)), by decide⟩
        | _ => simp [hc] at e
theorem pz_isi (hk : KitT TN) (hg : Gl X "isinstance") (hm : X.mg "isinstance" = none) (hgT : Gl X T) (hmT : X.mg T = none) (hvT : bootBuiltins T = some (.type TN)) (ha : PZ X CT U a fa) (hT : T ≠ "__name__" := by decide) (hTd : (T == ("__debug__" : Str)) = false := by decide)
    (he : starEach [a, .Name T p2] X.env = (false, eval a X.env) :: starEach [.Name T p2] X.env := by rfl) : PZ X CT U (.Call (.Name "isinstance" p) [a, .Name T p2] [] pos) (eUn (isiW TN) fa) :=
  weakE (pe_callB call_isi hg hm (by decide +kernel) (pa_cons ha (pa_cons (pe_bltn (v := .ty TN) hgT hmT hvT rfl hT hTd) pa_nil (by rfl)) he) (by decide) (by decide) he (by rfl)) fun σ H Q ⟨s, S, ρ, gd, en, h⟩ =>
  ⟨s, S, ρ, gd, en, RG.step h fun w S1 s1 H1 v x1 g1 r1 h1 => by
    obtain ⟨u, e, h1⟩ := RG.orBad h1
    simp only [Option.map_eq_some_iff] at e
    obtain ⟨t, e, rfl⟩ := e
    obtain ⟨ty, ht⟩ := tyW_ok g1 r1 e
    exact ⟨v, .ty TN, .type t, .type TN, isi t TN, rfl, .ty TN, ty, kit_ty (hk t ht), RG.here h1 g1 rfl⟩⟩
end
end Z
end
-- part Z10
section
set_option Elab.async false
set_option linter.all false
set_option maxRecDepth 100000
set_option autoImplicit false
namespace Z
open PySem PySem.Spec PyProof.Rows L2

/-! ### targets in the text -/
section
variable {X : Cx} {CT : CTb} {U : WX} {pos : Pos}
theorem zg_name (i : Nat) {x : Str} (hN : X.N.Nodup) (hi : X.N[i]? = some x := by rfl) (hx : Loc X.env.scope x := by first | exact Or.inl rfl | exact Or.inr rfl) (hf : X.fn x = true ∨ X.env.scope.names.lookup x = some .local := by first | exact .inl rfl | exact .inr rfl | assumption) :
    PG X (.Name x pos) (tgG X.K (.nm i)) := pg_name hN hi hx hf
abbrev ZGs (X : Cx) (es : List Expr) (ts : List Tg) : Prop := PGs X es (tgGs X.K ts)
theorem zgs_nil : ZGs X [] [] := pgs_nil
theorem zgs_cons {e : Expr} {es : List Expr} {t : Tg} {ts : List Tg} (h1 : PG X e (tgG X.K t)) (h2 : ZGs X es ts) (hs : (assignEach (e :: es) X.env).map (·.2) = assign e X.env :: (assignEach es X.env).map (·.2) := by rfl) : ZGs X (e :: es) (t :: ts) := pgs_cons h1 h2 hs
theorem zg_tup {es : List Expr} {ts : List Tg} {k : Nat} (hc : X.calm = true) (h : ZGs X es ts) (hn : (assignEach es X.env).length = ts.length := by rfl) (hst : (assignEach es X.env).findIdx? (·.1) = none := by rfl) : PG X (.Tuple es k pos) (tgG X.K (.tp ts)) := pg_tup hc h hn hst
theorem tk0 : Takes X U0 := takes0
end

/-! ### a def, called by its name -/
def CallF (P' : Program) (w : World) (K : PySem.W.Frag) (mg : Str → Option Value) (base : Heap) (CT : CTb) (x : Str) (n k : Nat) (g : List P → Rp) : Prop :=
  ∃ f fd ps, FnOk P' w K mg base (L2.CX P' w) k f fd ps (spP K CT n g) ∧ mg x = some (.ref f) ∧ PySem.W.keepIn K (.ref f) = true ∧ Binds K fd ps []
def MethF (P' : Program) (w : World) (K : PySem.W.Frag) (mg : Str → Option Value) (base : Heap) (CT : CTb) (c m : Str) (n k : Nat) (g : List P → Rp) : Prop :=
  ∃ f fd ps, FnOk P' w K mg base (L2.CX P' w) k f fd ps (spP K CT n g) ∧ Meth K (CT c) m f ∧ Binds K fd ps [] ∧ Cls K (CT c)
def NewF (P' : Program) (w : World) (K : PySem.W.Frag) (mg : Str → Option Value) (base : Heap) (CT : CTb) (c : Str) (n k : Nat) (g : List P → Rp) : Prop :=
  ∃ f fd ps, FnOk P' w K mg base (L2.CX P' w) k f fd ps (spI K CT c n g) ∧ Mk K (CT c) f ∧ mg c = some (.ref (CT c)) ∧ Binds K fd ps []
section
variable {X : Cx} {CT : CTb} {U : WX} {e o : Expr} {es : List Expr} {fo : FE W} {ga : FE (List W)} {pos p apos : Pos} {x m c : Str} {k j n : Nat} {g : List P → Rp}
theorem pz_callF (C : CallF X.prog X.w X.K X.mg X.base CT x n k g) (hr : Room j X.A) (hjk : k ≤ j) (hg : Gl X x) (tk : Takes X U)
    (ha : PZA X CT U (e :: es) ga) (hdb : (x == ("__debug__" : Str)) = false := by decide) (he : starEach (e :: es) X.env = (false, eval e X.env) :: starEach es X.env := by rfl) (hpl : (backTo pos (starEach es X.env)).any (·.1) = false := by rfl) :
    PZ X CT U (.Call (.Name x p) (e :: es) [] pos) (eCall n g ga) := by
  obtain ⟨f, fd, ps, F, h1, h2, h3⟩ := C
  exact pz_call F (hr.mono hjk) hg h1 h2 h3 tk ha hdb he hpl
theorem pz_newF (C : NewF X.prog X.w X.K X.mg X.base CT x n k g) (hr : Room j X.A) (hjk : k + 1 ≤ j) (hg : Gl X x) (tk : Takes X U)
    (ha : PZA X CT U (e :: es) ga) (hdb : (x == ("__debug__" : Str)) = false := by decide) (he : starEach (e :: es) X.env = (false, eval e X.env) :: starEach es X.env := by rfl) (hpl : (backTo pos (starEach es X.env)).any (·.1) = false := by rfl) :
    PZ X CT U (.Call (.Name x p) (e :: es) [] pos) (eCall n g ga) := by
  obtain ⟨f, fd, ps, F, h1, h2, h3⟩ := C
  exact pz_new h1 F (hr.mono hjk) hg h2 h3 tk ha hdb he hpl
theorem pz_methF {pl : Sem Bool} (C : MethF X.prog X.w X.K X.mg X.base CT c m n k g) (hr : Room j X.A) (hjk : k ≤ j) (tk : Takes X U) (ho : PZ X CT U o fo) (ha : PZA X CT U (e :: es) ga)
    (hst : starEach (e :: es) X.env = (false, eval e X.env) :: starEach es X.env := by rfl) (hpl : (backTo pos (starEach es X.env)).any (·.1) = false := by rfl)
    (ht : eval (.Call (.Attribute o m apos) (e :: es) [] pos) X.env = (do
      let ov ← eval o X.env
      standAt apos.atName
      let (f, first) ← holding [ov] (getMethod ov m pl)
      callWith pos f first (backTo pos (starEach (e :: es) X.env)) (backToKw pos (keywordEach [] X.env))) := by rfl) : PZ X CT U (.Call (.Attribute o m apos) (e :: es) [] pos) (eMeth c m n g fo ga) := by
  obtain ⟨f, fd, ps, F, h1, h2, h3⟩ := C
  exact pz_meth (pl := pl) h3 h1 F (hr.mono hjk) h2 tk ho ha hst hpl ht
theorem pz_methF0 {pl : Sem Bool} (C : MethF X.prog X.w X.K X.mg X.base CT c m n k g) (hr : Room j X.A) (hjk : k ≤ j) (tk : Takes X U) (ho : PZ X CT U o fo)
    (ht : eval (.Call (.Attribute o m apos) [] [] pos) X.env = (do
      let ov ← eval o X.env
      standAt apos.atName
      let (f, first) ← holding [ov] (getMethod ov m pl)
      callWith pos f first (backTo pos (starEach [] X.env)) (backToKw pos (keywordEach [] X.env))) := by rfl) : PZ X CT U (.Call (.Attribute o m apos) [] [] pos) (eMeth c m n g fo aNil) := by
  obtain ⟨f, fd, ps, F, h1, h2, h3⟩ := C
  exact pz_meth0 (pl := pl) h3 h1 F (hr.mono hjk) h2 tk ho ht
/-! ### exceptions of the program -/
structure ExcF (K : PySem.W.Frag) (mg : Str → Option Value) (CT : CTb) (c : Str) : Prop where
  x : PySem.W.excIn K (CT c) [.type "ValueError", .type "Exception", .type "BaseException", .type "object"] "ValueError.__new__" = true
  g : mg c = some (.ref (CT c))
  k : PySem.W.keepIn K (.ref (CT c)) = true
  b : PySem.W.subIn K (.ref (CT c)) (.type "BaseException") = some true
  t : PySem.W.typeIn K (.ref (CT c)) = some (.type "type")
theorem zs_raiseF {mm : Str} {jj : Nat} {p2 : Pos} (E : ExcF X.K X.mg CT x) (hc : X.calm = true) (tk : Takes X U) (hg : Gl X x) (hdb : (x == ("__debug__" : Str)) = false := by decide) :
    PZS X CT U (.Raise (some (.Call (.Name x p) [.Constant (.str mm) jj p2] [] apos)) none pos) (sRaise x) :=
  zs_raise (W := U) hc tk (pmk_own PySem.F.excBase_ValueError E.x E.g E.k (raises_own E.b E.t) hg hdb)
/-! ### try .. except X: .. (several clauses, no names) -/
def tryGo (M : Str → Str → Option Bool) : List (Str × FS) → Xn → Env → Store → R
  | [], x, ρ, S => .ex x ρ S
  | (c, f) :: hs, x, ρ, S => match M x.cls c with
    | some true => match f ρ S with
      | .ex _ _ _ => .bad
      | r => r
    | some false => tryGo M hs x ρ S
    | none => .bad
def sTry (M : Str → Str → Option Bool) (body : FS) (hs : List (Str × FS)) : FS := fun ρ S => match body ρ S with
  | .ex x ρ' S' => tryGo M hs x ρ' S'
  | r => r
def ExmF (K : PySem.W.Frag) (CT : CTb) (M : Str → Str → Option Bool) : Prop := ∀ r c b, M r c = some b → PySem.W.exmOne K (.ref (CT r)) (.ref (CT c)) = some b
abbrev hdl (K : PySem.W.Frag) (CT : CTb) (hs : List (Str × FS)) : List (Value × (Addr → Value → Option Addr → TS)) := hs.map fun q => (.ref (CT q.1), fun _ _ _ => canS K CT U0 q.2)
theorem try_wish {K : PySem.W.Frag} {M : Str → Str → Option Bool} (hM : ExmF K CT M) {s : Fs} {x : Xn} {ρ : Env} {S : Store} {D : Ends} : ∀ {hs : List (Str × FS)}, RS K CT s (tryGo M hs x ρ S) D U → RS K CT s (.ex x ρ S) D (wMany K U D (hdl K CT hs))
  | [], h => h
  | (c, f) :: hs, h => by
    intro s' H' σ' cv dd x1 g en rx
    have hc : cv = .ref (CT x.cls) := rx.1
    unfold tryGo at h
    cases em : M x.cls c with
    | none => rw [em] at h; exact h.elim
    | some b =>
      rw [em] at h
      refine ⟨b, by rw [hc]; exact hM _ _ _ em, fun hb a ha => ?_, fun hb => ?_⟩
      · subst hb
        refine ⟨s', S, ρ, g, en, ?_⟩
        have h := RS.ext x1 h
        cases ef : f ρ S with
        | ex x2 ρ2 S2 => rw [ef] at h; exact h.elim
        | nx ρ2 S2 => rw [ef] at h; show RS K CT s' (f ρ S) D U0; rw [ef]; exact h
        | bk ρ2 S2 => rw [ef] at h; show RS K CT s' (f ρ S) D U0; rw [ef]; exact h
        | ct ρ2 S2 => rw [ef] at h; show RS K CT s' (f ρ S) D U0; rw [ef]; exact h
        | rt ρ2 S2 => rw [ef] at h; show RS K CT s' (f ρ S) D U0; rw [ef]; exact h
        | bad => rw [ef] at h; show RS K CT s' (f ρ S) D U0; rw [ef]; exact h
      · subst hb
        exact try_wish hM h s' H' σ' cv dd x1 g en rx
theorem try_can {K : PySem.W.Frag} {M : Str → Str → Option Bool} (hM : ExmF K CT M) {body : FS} {hs : List (Str × FS)} {D : Ends} {σ : L2.St} {H : Hp} (h : canS K CT U (sTry M body hs) D σ H) : canS K CT (wMany K U D (hdl K CT hs)) body D σ H := by
  obtain ⟨s, S, ρ, g, en, h⟩ := h
  refine ⟨s, S, ρ, g, en, ?_⟩
  unfold sTry at h
  cases ef : body ρ S with
  | ex x2 ρ2 S2 => rw [ef] at h; exact try_wish hM h
  | nx ρ2 S2 => rw [ef] at h; exact h
  | bk ρ2 S2 => rw [ef] at h; exact h
  | ct ρ2 S2 => rw [ef] at h; exact h
  | rt ρ2 S2 => rw [ef] at h; exact h
  | bad => rw [ef] at h; exact h
theorem zs_try {M : Str → Str → Option Bool} {body : List Stmt} {h₀ : ExceptHandler} {hds : List ExceptHandler} {fb : FS} {hs : List (Str × FS)} (hM : ExmF X.K CT M) (hst : X.stack = X.env :: X.outer) (hf : X.env.frame = some X.env.locals) (tk : Takes X U)
    (hb : ∀ (W : WX) (pn : List (Addr × Obj)) (xe : Value → Shared → Prop), Takes (X.tr pn xe) W → PassesOwn (model X.prog X.w) X.A X.env xe → PZSs (X.tr pn xe) CT W body fb)
    (hh : HdsOk X (h₀ :: hds) (hdl X.K CT hs)) : PZS X CT U (.Try body (h₀ :: hds) [] [] pos) (sTry M fb hs) :=
  weakS (ps_try_many (tb := fun W => canS X.K CT W fb) (l := hdl X.K CT hs) hst hf tk hb hh) fun D σ H h => try_can hM h
theorem zh_nil : HdsOk X [] (hdl X.K CT []) := .nil
theorem zh_cons {b₀ : Stmt} {suite : List Stmt} {np pos' : Pos} {hds : List ExceptHandler} {hs : List (Str × FS)} {f : FS} (hg : Gl X x) (hm : X.mg x = some (.ref (CT x)))
    (hsu : ∀ (a : Addr) (oe : Obj) (cls : Value) (d : Option Addr) (pn : List (Addr × Obj)), PZSs (X.suite a ((a, oe) :: pn)) CT U0 (b₀ :: suite) f) (r : HdsOk X hds (hdl X.K CT hs)) (hdb : (x == ("__debug__" : Str)) = false := by decide) :
    HdsOk X (.ExceptHandler (some (.Name x np)) none (b₀ :: suite) pos' :: hds) (hdl X.K CT ((x, f) :: hs)) := .cons ⟨hg, hdb, .inl hm⟩ (fun a oe cls d pn _ _ => hsu a oe cls d pn) r
end
theorem fn_bad {K : PySem.W.Frag} {CT : CTb} {P' : Program} {w : World} {mg : Str → Option Value} {base : Heap} {x qual : Str} {st : Stmt} {f : Addr} {fd : FuncData} {N ps : List Str} {k n : Nat} {dvs : List V} {kws : List (Str × V)} (F : FunD K x qual (defArgs st) (defBody st) (defScope st) dvs kws f fd) (S : FnScope N ps (defScope st)) :
    FnOk P' w K mg base (L2.CX P' w) (k + 1) f fd ps (spP K CT n (fun _ => .bad)) :=
  F.ok S (fun vs H Q E ⟨_, _, _, _, _, _, h⟩ => h.elim) fun cdv A outer s H vs Q E hr ⟨_, _, _, _, _, _, h⟩ => h.elim
theorem CallF.mono {P' : Program} {w : World} {K : PySem.W.Frag} {mg : Str → Option Value} {base : Heap} {CT : CTb} {x : Str} {n k k' : Nat} {g : List P → Rp} (h : CallF P' w K mg base CT x n k g) (hk : k ≤ k') : CallF P' w K mg base CT x n k' g :=
  let ⟨f, fd, ps, F, r⟩ := h
  ⟨f, fd, ps, F.mono hk, r⟩
end Z
namespace Z
open PySem PySem.Spec PyProof.Rows L2
section
variable {X : Cx} {CT : CTb} {U : WX} {elt tg iter : Expr} {ifs : List Expr} {scope : Scope} {own : List (Str × Nat)} {pos spos py : Pos} {fi : FI} {t : Tg} {c : FE Bool} {e : FE W} {y : Str}
theorem zs_setLc (i : Nat) (hc : X.calm = true) (hN : X.N.Nodup) (hi : PZI X CT U tg iter fi) (ok : BlkOk X.N X.env.scope scope own)
    (hg : ∀ (s : Shared) (H : Hp) (C : Addr) (cl : List (Str × Addr)) (fp : List Addr), PG (X.blk s H scope (compEnvC scope cl C X.env) fp) tg (tgG X.K t)) (ht : ∀ (s : Shared) (H : Hp) (C : Addr) (cl : List (Str × Addr)) (fp : List Addr), PTs (X.blk s H scope (compEnvC scope cl C X.env) fp) ifs (canT X.K CT U0 c))
    (he : ∀ (s : Shared) (H : Hp) (C : Addr) (cl : List (Str × Addr)) (fp : List Addr), PE (X.blk s H scope (compEnvC scope cl C X.env) fp) elt (canE X.K CT U0 e)) (hsl : ∀ i ∈ slots t, i ∈ own.map (·.2)) (hsw : swapsWith (.ListComp elt [⟨tg, iter, ifs, 0⟩] scope pos) (some (.Name y py)) spos.line X.env = pure true)
    (hy : X.N[i]? = some y := by rfl) (hyl : X.env.scope.names.lookup y = some .local := by rfl) (hs : ∀ x, foldedSetIterable iter X.env x = pure x := by intro _; rfl) :
    PZS X CT U (.Assign [.Name y py] (.ListComp elt [⟨tg, iter, ifs, 0⟩] scope pos) spos) (sAsg i (eLc fi (own.map (·.2)) t c e)) := weakS (ps_setLc hc hN hy hyl hsw hi ok hg ht he hs) fun D σ H ⟨s, S, ρ, gd, en, h⟩ =>
  ⟨s, S, ρ, gd, en, RS.step (r := fi ρ S) (k := fun ps S1 => RE.toR (if ps.length ≤ 100000 then (lcGo (own.map (·.2)) t c e ρ ps S1).bind fun qs S2 => .ok (.val (.lst qs)) S2 else .bad) ρ fun w S' => .nx (ρ.set i (some w)) S') (by
      unfold sAsg eLc at h
      cases er : fi ρ S with
      | ok a S => rw [er] at h; exact h
      | ex a S => rw [er] at h; exact h
      | bad => rw [er] at h; exact h) en fun ps S1 s1 H1 J x1 g1 w1 h1 D0 hD => by
    split at h1
    · rename_i hsz
      exact lc_go g1 (en.mono x1) hD hsz hsl w1 (RS.step h1 (en.mono x1) fun w S2 s2 H2 v x2 g2 r2 h2 => RS.here h2 g2 (((en.mono x1).mono x2).set r2))
    · exact h1.elim⟩
theorem ipz_sub {K : PySem.W.Frag} : IpZ K CT (ipI fun i j => i - j) subW := ipz_int (fun i j S => rfl) (fun a b S => by
  unfold subW iOp
  split
  · rename_i i j; exact .inl ⟨i, j, rfl, rfl⟩
  · exact .inr rfl)
abbrev iaddW : O2 := iOp (fun _ _ => true) fun i j => .int (i + j)
theorem ipz_add {K : PySem.W.Frag} : IpZ K CT (ipI fun i j => i + j) iaddW := ipz_int (fun i j S => rfl) (fun a b S => by
  unfold iaddW iOp
  split
  · rename_i i j; exact .inl ⟨i, j, rfl, rfl⟩
  · exact .inr rfl)
theorem glo_int {K : PySem.W.Frag} {mg : Str → Option Value} {x : Str} {i : Int} (h : ∃ t, mg x = some (.int i t)) : GloOk K CT mg x (.int i) := let ⟨t, e⟩ := h; ⟨_, .int i, e, ⟨t, rfl⟩, rfl⟩
theorem glo_str {K : PySem.W.Frag} {mg : Str → Option Value} {x z : Str} (h : ∃ t, mg x = some (.str z t)) : GloOk K CT mg x (.str z) := let ⟨t, e⟩ := h; ⟨_, .str z, e, ⟨t, rfl⟩, rfl⟩
/-- a tuple of texts and numbers at the top -/
def DvP : List He.Dv → List P
  | [] => []
  | .int i :: r => .int i :: DvP r
  | .str x :: r => .str x :: DvP r
  | _ :: r => DvP r
end
end Z
end
-- part ZG
section
set_option Elab.async false
set_option linter.all false
set_option maxRecDepth 100000
set_option autoImplicit false
namespace Z
open PySem PySem.Spec PyProof.Rows L2
/-! ### all, any of a generator expression -/
def agGo (sb : Bool) (t : Tg) (e : FE W) (ρ : Env) : List P → Store → RE Bool
  | [], S => .ok (!sb) S
  | p :: ps, S => match bindT t p ρ with
    | none => .bad
    | some ρ1 => (noEx (e ρ1 S)).bind fun w S1 => (asB w S1).bind fun k S2 => if k = sb then .ok sb S2 else agGo sb t e ρ ps S2
def eAG (sb : Bool) (fi : FI) (vs : List Nat) (t : Tg) (e : FE W) : FE W := fun ρ S => (fi ρ S).bind fun ps S1 => (agGo sb t e (wipeE ρ vs) ps S1).bind fun k S2 => .ok (.val (.bl k)) S2
section
variable {K : PySem.W.Frag} {CT : CTb} {s : Fs} {S : Store} {H H' : Hp} {P : Addr}
theorem Gd.tabbed (g : Gd K CT s S H) (hP : P ∈ CT.tabs) (t : GxR.Tabbed P H H') : Gd K CT s S H' := by
  obtain ⟨t1, t2⟩ := t
  have cn : ∀ a o, H a = some o → (∀ ps, o ≠ .tbl ps) → H' a = some o := fun a o h n => by
    have : a ≠ P := fun z => by
      obtain ⟨ps, hp, _⟩ := g.tab P hP
      rw [z, hp] at h; cases h; exact n ps rfl
    rw [t2 a this]; exact h
  have ne : ∀ {X : Hp} {a : Addr} {o : HO}, X P = none → X a = some o → a ≠ P := fun h e z => by rw [z, h] at e; cases e
  refine ⟨fun a o e => by rw [t2 a (ne (g.notF P hP) e)]; exact g.exF a o e, fun a o e => by rw [t2 a (ne (g.notG P hP) e)]; exact g.exG a o e, g.len, fun n c a h1 h2 => ?_, g.inj, fun Q hQ => ?_, g.notF, g.notG⟩
  · have q := g.cells n c a h1 h2
    cases c with
    | lst ws => obtain ⟨q1, q2, vs, q3, q4⟩ := q; exact ⟨q1, q2, vs, cn _ _ q3 (fun ps z => by cases z), q4⟩
    | ins c ns ws => obtain ⟨q1, q2, dx, vs, q3, ql, q4⟩ := q; exact ⟨q1, q2, dx, vs, cn _ _ q3 (fun ps z => by cases z), ql, q4⟩
    | frz p => exact q
  · by_cases h : Q = P
    · rw [h]; exact t1
    · obtain ⟨ps, h1, h2⟩ := g.tab Q hQ
      exact ⟨ps, by rw [t2 Q h]; exact h1, h2⟩
end
section
variable {X : Cx} {CT : CTb} {U : WX} {elt tg iter : Expr} {scope : Scope} {own : List (Str × Nat)} {p pos gpos : Pos} {fi : FI} {t : Tg} {e : FE W} {c P : Addr} {k : Nat}
theorem ag_go {s1 : Fs} {S1 : Store} {H1 : Hp} {ρ : Env} {σ : L2.St} {ps : List Z.P} {J : It} {Q : VK} {vs : List Nat} {sb : Bool} {EX : Value → Option Addr → Hp → Prop} (g1 : Gd X.K CT s1 S1 H1) (en : EnvOk X.K CT s1 ρ σ) (hsl : ∀ i ∈ slots t, i ∈ vs) (w : WalkP X.K CT s1.F ps J)
    (h : RG X.K CT (RepW X.K CT) s1 ((agGo sb t e (wipeE ρ vs) ps S1).bind fun k S2 => .ok (.val (.bl k)) S2) Q EX) :
    ∃ W : Nat → Nat → Hp → Prop, (∃ m, W 0 m H1) ∧ GX.WalkG J (tgG X.K t) (canE X.K CT U0 e) (L2.wipe σ vs) vs sb Q W := by
  obtain ⟨G, Y, wk, hG, hY⟩ := w
  refine ⟨fun i m H => m = ps.length - i ∧ i ≤ ps.length ∧ ∃ s S, Ext s1 s ∧ Gd X.K CT s S H ∧ RG X.K CT (RepW X.K CT) s ((agGo sb t e (wipeE ρ vs) (ps.drop i) S).bind fun k S2 => .ok (.val (.bl k)) S2) Q EX, ⟨_, rfl, Nat.zero_le _, s1, S1, Ext.refl _, g1, by rw [List.drop_zero]; exact h⟩, ⟨?_⟩⟩
  rintro i m H ⟨rfl, hi, s, S, x0, g, h⟩
  have hGH := hG H (x0.f.trans g.exF)
  by_cases hlt : i < ps.length
  · refine .inr ⟨wk.goes i H hlt hGH, fun x H' y => ?_⟩
    obtain ⟨p, ep, yo⟩ := hY i H x H' hlt (x0.f.trans g.exF) (wk.yields i H x H' hlt hGH y)
    rw [lc_turn ep] at h
    obtain ⟨s2, x2, g2, rp⟩ : ∃ s', Ext s s' ∧ Gd X.K CT s' S H' ∧ RepP X.K CT s'.F p x := by
      rcases yo with ⟨rfl, rp⟩ | ⟨T, o, hT, rfl, rp⟩
      · exact ⟨s, Ext.refl _, g, rp.mono x0.f⟩
      · obtain ⟨g', x'⟩ := g.newF hT o
        exact ⟨_, x', g', rp _ (x0.f.trans x'.f) upd_same⟩
    have h := RG.ext x2 h
    unfold agGo at h
    cases eb : bindT t p (wipeE ρ vs) with
    | none => rw [eb] at h; exact h.elim
    | some ρ1 =>
      rw [eb] at h
      have en2 : EnvOk X.K CT s2 (wipeE ρ vs) (L2.wipe σ vs) := ((en.mono x0).mono x2).wipe vs
      refine bind_ok t g2.exF rp en2 eb fun σ2 en3 hw => ⟨(hw vs hsl).trans (GX.wipe_wipe σ vs), ?_⟩
      simp only [RE.bind_bind] at h
      refine ⟨s2, S, ρ1, g2, en3, RG.runN h fun w S3 s3 H3 yv er x3 g3 rw h3 => ?_⟩
      cases w with
      | loc n => exact h3.elim
      | val pw =>
        cases pw with
        | bl kb =>
          refine ⟨kb, rw, ?_⟩
          have h4 : RG X.K CT (RepW X.K CT) s3 ((if kb = sb then RE.ok sb S3 else agGo sb t e (wipeE ρ vs) (ps.drop (i + 1)) S3).bind fun k S2 => .ok (.val (.bl k)) S2) Q EX := RG.ext x3 h3
          by_cases hk : kb = sb
          · subst hk
            rw [if_pos rfl] at h4
            exact .inl ⟨rfl, RG.here h4 g3 rfl⟩
          · rw [if_neg hk] at h4
            refine .inr ⟨by cases kb <;> cases sb <;> simp_all, ps.length - (i + 1), by omega, rfl, hlt, s3, S3, (x0.trans x2).trans x3, g3, h4⟩
        | _ => exact h3.elim
  · have ei : i = ps.length := by omega
    subst ei
    rw [List.drop_length] at h
    exact .inl ⟨wk.stops H hGH, RG.here h g rfl⟩
theorem pz_allG (hr : Room (k + 1) X.A) (hc : X.calm = true) (hN : X.N.Nodup) (hg : Gl X "all") (hm : X.mg "all" = none) (TB : GxR.TabB X.base X.mg c P) (hcode : X.env.code = .ref c) (hP : P ∈ CT.tabs) (hi : PZI X CT U tg iter fi) (ok : BlkOk X.N X.env.scope scope own)
    (hcell : ∀ y ∈ scope.names, y.2 ≠ .cell) (hco : scope.isCoroutine = false) (h0 : scope.names.lookup (".0" : Str) = some NameKind.local)
    (hG : ∀ (s : Shared) (H : Hp) (C : Addr) (code : Value) (fp : List Addr) (A' : Around), Room k A' → PG (GX.gcx X s H (genEnv scope (GX.gcl X scope) C code builtinsNs X.env) fp A') tg (tgG X.K t))
    (hE : ∀ (s : Shared) (H : Hp) (C : Addr) (code : Value) (fp : List Addr) (A' : Around), Room k A' → PE (GX.gcx X s H (genEnv scope (GX.gcl X scope) C code builtinsNs X.env) fp A') elt (canE X.K CT U0 e))
    (hsl : ∀ i ∈ slots t, i ∈ own.map (·.2)) (hs : ∀ v, genFold iter X.env v = pure v := by intro _; rfl)
    (he : starEach [.GeneratorExp elt [⟨tg, iter, [], 0⟩] scope gpos] X.env = (false, eval (.GeneratorExp elt [⟨tg, iter, [], 0⟩] scope gpos) X.env) :: starEach [] X.env := by rfl) :
    PZ X CT U (.Call (.Name "all" p) [.GeneratorExp elt [⟨tg, iter, [], 0⟩] scope gpos] [] pos) (eAG false fi (own.map (·.2)) t e) := weakE (GX.pe_all hr hc hN hg hm TB hcode hi ok hcell hco h0 hG hE hs he) fun σ H Q ⟨s, S, ρ, gd, en, h⟩ =>
  ⟨s, S, ρ, gd, en, RG.step h fun ps S1 s1 H1 J x1 g1 w1 h1 => ⟨g1.tab P hP, fun H2 hT => ag_go (g1.tabbed hP hT) (en.mono x1) hsl w1 h1⟩⟩
theorem pz_anyG (hr : Room (k + 1) X.A) (hc : X.calm = true) (hN : X.N.Nodup) (hg : Gl X "any") (hm : X.mg "any" = none) (TB : GxR.TabB X.base X.mg c P) (hcode : X.env.code = .ref c) (hP : P ∈ CT.tabs) (hi : PZI X CT U tg iter fi) (ok : BlkOk X.N X.env.scope scope own)
    (hcell : ∀ y ∈ scope.names, y.2 ≠ .cell) (hco : scope.isCoroutine = false) (h0 : scope.names.lookup (".0" : Str) = some NameKind.local)
    (hG : ∀ (s : Shared) (H : Hp) (C : Addr) (code : Value) (fp : List Addr) (A' : Around), Room k A' → PG (GX.gcx X s H (genEnv scope (GX.gcl X scope) C code builtinsNs X.env) fp A') tg (tgG X.K t))
    (hE : ∀ (s : Shared) (H : Hp) (C : Addr) (code : Value) (fp : List Addr) (A' : Around), Room k A' → PE (GX.gcx X s H (genEnv scope (GX.gcl X scope) C code builtinsNs X.env) fp A') elt (canE X.K CT U0 e))
    (hsl : ∀ i ∈ slots t, i ∈ own.map (·.2)) (hs : ∀ v, genFold iter X.env v = pure v := by intro _; rfl)
    (he : starEach [.GeneratorExp elt [⟨tg, iter, [], 0⟩] scope gpos] X.env = (false, eval (.GeneratorExp elt [⟨tg, iter, [], 0⟩] scope gpos) X.env) :: starEach [] X.env := by rfl) :
    PZ X CT U (.Call (.Name "any" p) [.GeneratorExp elt [⟨tg, iter, [], 0⟩] scope gpos] [] pos) (eAG true fi (own.map (·.2)) t e) := weakE (GX.pe_any hr hc hN hg hm TB hcode hi ok hcell hco h0 hG hE hs he) fun σ H Q ⟨s, S, ρ, gd, en, h⟩ =>
  ⟨s, S, ρ, gd, en, RG.step h fun ps S1 s1 H1 J x1 g1 w1 h1 => ⟨g1.tab P hP, fun H2 hT => ag_go (g1.tabbed hP hT) (en.mono x1) hsl w1 h1⟩⟩
end
end Z
end
-- part ZH
section
set_option Elab.async false
set_option linter.all false
set_option maxRecDepth 100000
set_option autoImplicit false
namespace Z
open PySem PySem.Spec PyProof.Rows L2
/-! ### slices -/
def cutA {α : Type} (xs : List α) (lo hi : Option Int) : List α := (xs.drop (HT.sIx xs.length 0 lo)).take (HT.sIx xs.length xs.length hi - HT.sIx xs.length 0 lo)
def asI : W → Store → RE (Option Int)
  | .val (.int i), S => .ok (some i) S
  | _, _ => .bad
def pNone : FE (Option Int) := fun _ S => .ok none S
def pSome (f : FE W) : FE (Option Int) := fun ρ S => (f ρ S).bind asI
def sliceW (w : W) (lo hi : Option Int) (S : Store) : RE W := match w with
  | .val (.str z) => if z.length ≤ 1000000 then .ok (.val (.str (Txt.slice z lo hi))) S else .bad
  | .val (.tup ps) => if HT.sIx ps.length 0 lo = 0 ∧ HT.sIx ps.length ps.length hi = ps.length then .bad else .ok (.val (.tup (cutA ps lo hi))) S
  | w => match seqW S w with
    | some ws => (doFrzs (cutA ws lo hi) S).bind fun ps S2 => .ok (.val (.lst ps)) S2
    | none => .bad
def eSl (fa : FE W) (fl fh : FE (Option Int)) : FE W := fun ρ S => (fa ρ S).bind fun w S1 => (fl ρ S1).bind fun lo S2 => (fh ρ S2).bind fun hi S3 => sliceW w lo hi S3
section
variable {K : PySem.W.Frag} {CT : CTb}
def canO (K : PySem.W.Frag) (CT : CTb) (U : WX) (f : FE (Option Int)) : TO := fun σ H Q => ∃ s S ρ, Gd K CT s S H ∧ EnvOk K CT s ρ σ ∧ RG K CT (fun _ a b => a = b) s (f ρ S) Q (fun c d H' => U c d σ H')
theorem RepL.drop {F : Hp} : ∀ {ws : List P} {vs : List V} (n : Nat), RepL K CT F ws vs → RepL K CT F (ws.drop n) (vs.drop n)
  | ws, vs, 0, h => h
  | [], _, n + 1, h => by rw [show _ = _ from h]; exact rfl
  | w :: ws, _, n + 1, ⟨v, vs', e, _, h3⟩ => by subst e; exact RepL.drop n h3
theorem RepL.take {F : Hp} : ∀ {ws : List P} {vs : List V} (n : Nat), RepL K CT F ws vs → RepL K CT F (ws.take n) (vs.take n)
  | ws, vs, 0, h => by rw [List.take_zero, List.take_zero]; exact rfl
  | [], _, n + 1, h => by rw [show _ = _ from h]; exact rfl
  | w :: ws, _, n + 1, ⟨v, vs', e, h2, h3⟩ => by subst e; exact ⟨v, _, rfl, h2, RepL.take n h3⟩
end
section
variable {X : Cx} {CT : CTb} {U : WX} {a : Expr} {lo hi : Option Expr} {fa : FE W} {fl fh : FE (Option Int)} {pos p2 : Pos}
theorem weakO {X : Cx} {e : Option Expr} {t t' : TO} (h : PO X e t) (w : ∀ σ H Q, t' σ H Q → t σ H Q) : PO X e t' := ⟨fun pins s σ H Q I q => h.run pins s σ H Q I (w σ H Q q)⟩
theorem zo_none : PO X none (canO X.K CT U pNone) := weakO po_none fun σ H Q ⟨s, S, ρ, gd, en, h⟩ => RG.here h gd rfl
theorem zo_some {e : Expr} {f : FE W} (h : PZ X CT U e f) : PO X (some e) (canO X.K CT U (pSome f)) := weakO (po_some h) fun σ H Q ⟨s, S, ρ, gd, en, h⟩ =>
  ⟨s, S, ρ, gd, en, RG.step h fun w S1 s1 H1 v x1 g1 r1 h1 => by
    cases w with
    | loc n => exact h1.elim
    | val p =>
      cases p with
      | int i => exact ⟨i, r1, RG.here h1 g1 rfl⟩
      | _ => exact h1.elim⟩
def rSlZ (K : PySem.W.Frag) : V → Option Int → Option Int → Hp → VK → Prop := fun x lo hi H Q => rSlL K x lo hi H Q ∨ (rSlT K x lo hi H Q ∨ C8.rSlX x lo hi H Q)
theorem sliceW_seq {K : PySem.W.Frag} {s : Fs} {S : Store} {H : Hp} {w : W} {v : V} {lo hi : Option Int} {Q : VK} {EX : Value → Option Addr → Hp → Prop} (g : Gd K CT s S H) (r : RepW K CT s w v)
    (h : RG K CT (RepW K CT) s (match seqW S w with
    | some ws => (doFrzs (cutA ws lo hi) S).bind fun ps S2 => RE.ok (.val (.lst ps)) S2
    | none => .bad) Q EX) : rSlL K v lo hi H Q := by
  split at h
  · rename_i ws e
    obtain ⟨a, vs, rfl, h1, h2⟩ := seqW_ok g r e
    refine ⟨a, vs, rfl, h1, fun p hp => ?_⟩
    have hl := h2.length
    have h3 : RepWs K CT s (cutA ws lo hi) (cutV vs lo hi) := by
      unfold cutA cutV
      rw [hl]
      exact (h2.drop _).take _
    obtain ⟨ps, S2, s2, x2, g2, r2, h2⟩ := RG.frzs g h3 h
    exact RG.new h2 g2 hp fun F' e q => ⟨p, _, rfl, q, r2.mono e⟩
  · exact h.elim
theorem pz_slice (ha : PZ X CT U a fa) (hl : PO X lo (canO X.K CT U fl)) (hh : PO X hi (canO X.K CT U fh)) : PZ X CT U (.Subscript a (.Slice lo hi none p2) pos) (eSl fa fl fh) :=
  weakE (pe_slice (r := rSlZ X.K) (sl_list.or (sl_tup.or C8.sl_txt)) ha hl hh) fun σ H Q ⟨s, S, ρ, gd, en, h⟩ =>
  ⟨s, S, ρ, gd, en, RG.step h fun w S1 s1 H1 v x1 g1 r1 h1 => ⟨s1, S1, ρ, g1, en.mono x1, RG.step h1 fun l S2 s2 H2 l' x2 g2 e2 h2 => by
    have e2 : l = l' := e2
    subst e2
    exact ⟨s2, S2, ρ, g2, (en.mono x1).mono x2, RG.step h2 fun u S3 s3 H3 u' x3 g3 e3 h3 => by
      have e3 : u = u' := e3
      subst e3
      have r9 := (r1.mono x2).mono x3
      unfold sliceW at h3
      split at h3
      · rename_i z
        split at h3
        · rename_i c
          exact .inr (.inr ⟨z, r9, sz6 c, RG.here h3 g3 rfl⟩)
        · exact h3.elim
      · rename_i ps
        split at h3
        · exact h3.elim
        · rename_i c
          obtain ⟨b, vs, rfl, q1, q2⟩ := r9
          have hl := q2.length
          refine .inr (.inl ⟨b, vs, rfl, g3.exF.st q1, by rw [hl]; exact c, fun p hp => ?_⟩)
          refine RG.new h3 g3 hp fun F' e q => ⟨p, _, rfl, .inl (.inl q), ?_⟩
          have : RepL X.K CT s3.F (cutA ps l u) (cutV vs l u) := by
            unfold cutA cutV
            rw [hl]
            exact (q2.drop _).take _
          exact this.mono e
      · exact .inl (sliceW_seq g3 r9 h3)⟩⟩⟩
/-! ### xs[::-1] -/
def revW : W → Store → RE W := fun w S => match seqW S w with
  | some ws => (doFrzs ws S).bind fun ps S2 => .ok (.val (.lst ps.reverse)) S2
  | none => .bad
theorem RepL.rev {K : PySem.W.Frag} {F : Hp} : ∀ {ps : List P} {vs : List V}, RepL K CT F ps vs → RepL K CT F ps.reverse vs.reverse
  | [], _, h => by rw [show _ = _ from h]; exact rfl
  | p :: ps, _, ⟨v, vs', e, h2, h3⟩ => by
    subst e
    rw [List.reverse_cons, List.reverse_cons]
    exact (RepL.rev h3).append ⟨v, [], rfl, h2, rfl⟩
theorem pz_rev {k : Nat} {q1 q2 q3 : Pos} (ha : PZ X CT U a fa) : PZ X CT U (.Subscript a (.Slice none none (some (.UnaryOp .USub (.Constant (.int 1) k q1) q2)) q3) pos) (eUn revW fa) := weakE (pe_revL ha) fun σ H Q ⟨s, S, ρ, gd, en, h⟩ =>
  ⟨s, S, ρ, gd, en, RG.step h fun w S1 s1 H1 v x1 g1 r1 h1 => by
    unfold revW at h1
    split at h1
    · rename_i ws e
      obtain ⟨b, vs, rfl, q1, q2⟩ := seqW_ok g1 r1 e
      refine ⟨b, vs, rfl, q1, fun p hp => ?_⟩
      obtain ⟨ps, S2, s2, x2, g2, r2, h2⟩ := RG.frzs g1 q2 h1
      exact RG.new h2 g2 hp fun F' e q => ⟨p, _, rfl, q, r2.rev.mono e⟩
    · exact h1.elim⟩
/-! ### min(xs), max(xs) of a list of numbers -/
def minI (xs : List Int) : Option Int := match xs with
  | [] => none
  | x :: xs => some (xs.foldl (fun a b => if b < a then b else a) x)
def maxI (xs : List Int) : Option Int := match xs with
  | [] => none
  | x :: xs => some (xs.foldl (fun a b => if b > a then b else a) x)
theorem foldl_min (x : Int) : ∀ (xs : List Int), (xs.foldl (fun a b => if b < a then b else a) x ∈ x :: xs) ∧ ∀ y ∈ x :: xs, xs.foldl (fun a b => if b < a then b else a) x ≤ y := by
  intro xs
  induction xs generalizing x with
  | nil => simp
  | cons b xs ih =>
    rw [List.foldl_cons]
    by_cases hb : b < x
    · rw [if_pos hb]
      obtain ⟨h1, h2⟩ := ih b
      have h0 := h2 b List.mem_cons_self
      refine ⟨List.mem_cons_of_mem _ h1, fun y hy => ?_⟩
      rcases List.mem_cons.mp hy with e | e
      · subst e; omega
      · exact h2 y e
    · rw [if_neg hb]
      obtain ⟨h1, h2⟩ := ih x
      have h0 := h2 x List.mem_cons_self
      refine ⟨?_, fun y hy => ?_⟩
      · rcases List.mem_cons.mp h1 with e | e
        · rw [e]; exact List.mem_cons_self
        · exact List.mem_cons_of_mem _ (List.mem_cons_of_mem _ e)
      · rcases List.mem_cons.mp hy with e | e
        · subst e; omega
        · rcases List.mem_cons.mp e with e | e
          · subst e; omega
          · exact h2 y (List.mem_cons_of_mem _ e)
theorem foldl_max (x : Int) : ∀ (xs : List Int), (xs.foldl (fun a b => if b > a then b else a) x ∈ x :: xs) ∧ ∀ y ∈ x :: xs, y ≤ xs.foldl (fun a b => if b > a then b else a) x := by
  intro xs
  induction xs generalizing x with
  | nil => simp
  | cons b xs ih =>
    rw [List.foldl_cons]
    by_cases hb : b > x
    · rw [if_pos hb]
      obtain ⟨h1, h2⟩ := ih b
      have h0 := h2 b List.mem_cons_self
      refine ⟨List.mem_cons_of_mem _ h1, fun y hy => ?_⟩
      rcases List.mem_cons.mp hy with e | e
      · subst e; omega
      · exact h2 y e
    · rw [if_neg hb]
      obtain ⟨h1, h2⟩ := ih x
      have h0 := h2 x List.mem_cons_self
      refine ⟨?_, fun y hy => ?_⟩
      · rcases List.mem_cons.mp h1 with e | e
        · rw [e]; exact List.mem_cons_self
        · exact List.mem_cons_of_mem _ (List.mem_cons_of_mem _ e)
      · rcases List.mem_cons.mp hy with e | e
        · subst e; omega
        · rcases List.mem_cons.mp e with e | e
          · subst e; omega
          · exact h2 y (List.mem_cons_of_mem _ e)
def minW : List W → Store → RE W
  | [w], S => match pOf S w with
    | some (.lst ps) => orBad (((intsOf ps).bind minI).map fun m => .val (.int m)) S
    | _ => .bad
  | _, _ => .bad
def maxW : List W → Store → RE W
  | [w], S => match pOf S w with
    | some (.lst ps) => orBad (((intsOf ps).bind maxI).map fun m => .val (.int m)) S
    | _ => .bad
  | _, _ => .bad
theorem minI_ok {ns : List Int} {m m' : Int} (h : minI ns = some m) (h1 : m' ∈ ns) (h2 : ∀ y, y ∈ ns → m' ≤ y) : m' = m := by
  cases ns with
  | nil => cases h
  | cons x xs =>
    have h : some (xs.foldl (fun a b => if b < a then b else a) x) = some m := h
    cases h
    obtain ⟨a1, a2⟩ := foldl_min x xs
    have := h2 _ a1
    have := a2 _ h1
    omega
theorem maxI_ok {ns : List Int} {m m' : Int} (h : maxI ns = some m) (h1 : m' ∈ ns) (h2 : ∀ y, y ∈ ns → y ≤ m') : m' = m := by
  cases ns with
  | nil => cases h
  | cons x xs =>
    have h : some (xs.foldl (fun a b => if b > a then b else a) x) = some m := h
    cases h
    obtain ⟨a1, a2⟩ := foldl_max x xs
    have := h2 _ a1
    have := a2 _ h1
    omega
theorem cz_min {K : PySem.W.Frag} : CallZ K CT (rMin K) minW := fun s S H ws vs Q EX gd r h => by
  unfold minW at h
  split at h
  · rename_i w
    obtain ⟨v, rfl, rw⟩ := rep1 r
    split at h
    · rename_i ps e
      obtain ⟨a, vs, rfl, h1, h2⟩ := (pOf_ok gd rw e).lst gd
      obtain ⟨z, e2, h⟩ := RG.orBad h
      simp only [Option.map_eq_some_iff, Option.bind_eq_some_iff] at e2
      obtain ⟨m, ⟨ns, e3, e4⟩, rfl⟩ := e2
      refine ⟨a, ns, rfl, by rw [← intsOf_ok e3 h2]; exact SqL.of h1, ?_, fun m' p1 p2 => ?_⟩
      · cases ns with
        | nil => cases e4
        | cons _ _ => simp
      · rw [minI_ok e4 p1 p2]; exact RG.here h gd rfl
    · exact h.elim
  · exact h.elim
theorem cz_max {K : PySem.W.Frag} : CallZ K CT (rMax K) maxW := fun s S H ws vs Q EX gd r h => by
  unfold maxW at h
  split at h
  · rename_i w
    obtain ⟨v, rfl, rw⟩ := rep1 r
    split at h
    · rename_i ps e
      obtain ⟨a, vs, rfl, h1, h2⟩ := (pOf_ok gd rw e).lst gd
      obtain ⟨z, e2, h⟩ := RG.orBad h
      simp only [Option.map_eq_some_iff, Option.bind_eq_some_iff] at e2
      obtain ⟨m, ⟨ns, e3, e4⟩, rfl⟩ := e2
      refine ⟨a, ns, rfl, by rw [← intsOf_ok e3 h2]; exact SqL.of h1, ?_, fun m' p1 p2 => ?_⟩
      · cases ns with
        | nil => cases e4
        | cons _ _ => simp
      · rw [maxI_ok e4 p1 p2]; exact RG.here h gd rfl
    · exact h.elim
  · exact h.elim
variable {ga : FE (List W)} {p : Pos}
theorem pz_minL (hc : X.calm = true) (hg : Gl X "min") (hm : X.mg "min" = none) (ha : PZA X CT U [a] ga) (he : starEach [a] X.env = (false, eval a X.env) :: starEach [] X.env := by rfl) : PZ X CT U (.Call (.Name "min" p) [a] [] pos) (eCB minW ga) :=
  pz_callB (cr_min hc) cz_min hg hm (by decide +kernel) ha (by decide) (by decide) he rfl
theorem pz_maxL (hc : X.calm = true) (hg : Gl X "max") (hm : X.mg "max" = none) (ha : PZA X CT U [a] ga) (he : starEach [a] X.env = (false, eval a X.env) :: starEach [] X.env := by rfl) : PZ X CT U (.Call (.Name "max" p) [a] [] pos) (eCB maxW ga) :=
  pz_callB (cr_max hc) cz_max hg hm (by decide +kernel) ha (by decide) (by decide) he rfl
/-! ### range(i, j, -1) -/
def rngD (i : Int) (n : Nat) : List P := (List.range n).map fun (k : Nat) => P.int (i + (k : Nat) * (-1))
def iRangeD (fa : FE (List W)) : FI := fun ρ S => (fa ρ S).bind fun ws S1 => match ws with
  | [.val (.int i), .val (.int j), .val (.int (-1))] => if rngOk i j = true then .ok (rngD i (i - j).toNat) S1 else .bad
  | _ => .bad
theorem walkD {K : PySem.W.Frag} {F : Hp} {i : Int} {n : Nat} : WalkP K CT F (rngD i n) (Itc i (-1) n) := by
  refine ⟨_, _, by unfold rngD; rw [List.length_map, List.length_range]; exact walk_rangeC, fun _ _ => trivial, fun k H x H' hi e y => ?_⟩
  obtain ⟨rfl, rfl⟩ := y
  unfold rngD at hi ⊢
  rw [List.length_map, List.length_range] at hi
  exact ⟨.int (i + (k : Nat) * (-1)), by rw [List.getElem?_map, List.getElem?_range hi]; rfl, .inl ⟨rfl, rfl⟩⟩
theorem rep3 {K : PySem.W.Frag} {s : Fs} {w u z : W} {vs : List V} (r : RepWs K CT s [w, u, z] vs) : ∃ v v' v'', vs = [v, v', v''] ∧ RepW K CT s w v ∧ RepW K CT s u v' ∧ RepW K CT s z v'' := by
  obtain ⟨v, vs', rfl, h2, h3⟩ := r
  obtain ⟨v', v'', rfl, h4, h5⟩ := rep2 h3
  exact ⟨v, v', v'', rfl, h2, h4, h5⟩
theorem zi_rangeD {tg b c : Expr} (hg : Gl X "range") (hm : X.mg "range" = none) (ha : PZA X CT U [a, b, c] ga) (hs : starEach [a, b, c] X.env = (false, eval a X.env) :: starEach [b, c] X.env := by rfl) (hs2 : (backTo pos (starEach [b, c] X.env)).any (·.1) = false := by rfl) :
    PZI X CT U tg (.Call (.Name "range" p) [a, b, c] [] pos) (iRangeD ga) := weakI (pi_range3 hg hm ha hs hs2) fun σ H Rr ⟨s, S, ρ, gd, en, h⟩ =>
  ⟨s, S, ρ, gd, en, RG.step h fun ws S1 s1 H1 vs x1 g1 r1 h1 => by
    split at h1
    · rename_i i j
      obtain ⟨v, v', v'', rfl, rv, rv', rv''⟩ := rep3 r1
      split at h1
      · rename_i c
        simp only [rngOk, Bool.and_eq_true, decide_eq_true_eq] at c
        exact ⟨i, j, -1, _, by rw [show v = _ from rv, show v' = _ from rv', show v'' = _ from rv''], RgC.neg c.1.1.1 c.1.1.2 c.1.2 c.2, RG.here h1 g1 walkD⟩
      · exact h1.elim
    · exact h1.elim⟩
/-! ### x.bit_length() -/
def bitsW : W → Store → RE W
  | .val (.int i), S => .ok (.val (.int (Builtin.Int.intBits i : Nat))) S
  | _, _ => .bad
theorem pz_bits {apos : Pos} (ha : PZ X CT U a fa) (hbase : attributeBase a "bit_length" X.env (eval a X.env) = eval a X.env := by rfl) (hline : (apos.endLine == pos.line) = true := by rfl) : PZ X CT U (.Call (.Attribute a "bit_length" apos) [] [] pos) (eUn bitsW fa) := weakE (pe_bits ha hbase hline) fun σ H Q ⟨s, S, ρ, gd, en, h⟩ =>
  ⟨s, S, ρ, gd, en, RG.step h fun w S1 s1 H1 v x1 g1 r1 h1 => by
    cases w with
    | loc n => exact h1.elim
    | val p =>
      cases p with
      | int i => exact ⟨i, r1, RG.here h1 g1 rfl⟩
      | _ => exact h1.elim⟩
end
/-! ### a < b < c < d -/
section
variable {X : Cx} {CT : CTb} {U : WX} {a b c d : Expr} {ta tb tc td : TE} {fa fb fc fd : FE W} {r r' r'' : R2} {g g' g'' : O2} {pos : Pos}
def tChain3 (r r' r'' : R2) (ta tb tc td : TE) : TE := fun σ H Q => ta σ H fun x H1 => tb σ H1 fun y H2 => r x y H2 fun z H3 => ∃ k, z = .bl k ∧
  (if k = true then tc σ H3 fun w' H4 => r' y w' H4 fun z2 H5 => ∃ k2, z2 = .bl k2 ∧ (if k2 = true then td σ H5 fun v' H6 => r'' w' v' H6 Q else Q (.bl false) H5) else Q (.bl false) H3)
theorem pe_chain3 {op op' op'' : CmpOp} (ho : OpR X (compareOp op) r) (ho' : OpR X (compareOp op') r') (ho'' : OpR X (compareOp op'') r'') (ha : PE X a ta) (hb : PE X b tb) (hc : PE X c tc) (hd : PE X d td)
    (hm : lastMarks [op, op', op''] [b, c, d] = false := by with_unfolding_all rfl) : PE X (.Compare a [op, op', op''] [b, c, d] pos) (tChain3 r r' r'' ta tb tc td) := by
  refine ⟨fun pins s σ H Q I h => ?_⟩
  refine Compare_chain (thn (ha.run pins s σ H _ I h) fun v s1 ⟨x, H1, I1, r1, q1⟩ => chain_link (thn (hb.run pins s1 σ H1 _ I1 q1) fun u s2 ⟨y, H2, I2, r2, q2⟩ =>
    thn (ho pins s2 σ H2 x y v u _ I2 r1 r2 q2) fun d s3 ⟨z, H3, I3, r3, k, e, q3⟩ => ?_)) hm
  subst e
  cases r3
  refine wpAny_truthy_bool ?_
  cases k with
  | false => exact ite_ff ⟨.bl false, H3, I3, rfl, q3⟩
  | true =>
    refine ite_tt (chain_link (thn (hc.run pins s3 σ H3 _ I3 q3) fun w' s4 ⟨z', H4, I4, r4, q4⟩ => thn (ho' pins s4 σ H4 y z' u w' _ I4 r2 r4 q4) fun d2 s5 ⟨z2, H5, I5, r5, k2, e2, q5⟩ => ?_))
    subst e2
    cases r5
    refine wpAny_truthy_bool ?_
    cases k2 with
    | false => exact ite_ff ⟨.bl false, H5, I5, rfl, q5⟩
    | true => exact ite_tt (chain_last (thn (hd.run pins s5 σ H5 _ I5 q5) fun v' s6 ⟨z6, H6, I6, r6, q6⟩ => ho'' pins s6 σ H6 z' z6 w' v' Q I6 r4 r6 q6))
def eChain3 (g g' g'' : O2) (fa fb fc fd : FE W) : FE W := fun ρ S => (fa ρ S).bind fun a S1 => (fb ρ S1).bind fun b S2 => (g a b S2).bind fun k S3 => (asB k S3).bind fun k S4 =>
  if k = true then (fc ρ S4).bind fun c S5 => (g' b c S5).bind fun k S6 => (asB k S6).bind fun k S7 => if k = true then (fd ρ S7).bind fun d S8 => g'' c d S8 else .ok (.val (.bl false)) S7 else .ok (.val (.bl false)) S4
theorem pz_chain3 {op op' op'' : CmpOp} (ho : OpR X (compareOp op) r) (hz : OpZ X.K CT r g) (ho' : OpR X (compareOp op') r') (hz' : OpZ X.K CT r' g') (ho'' : OpR X (compareOp op'') r'') (hz'' : OpZ X.K CT r'' g'') (ha : PZ X CT U a fa) (hb : PZ X CT U b fb) (hc : PZ X CT U c fc) (hd : PZ X CT U d fd)
    (hm : lastMarks [op, op', op''] [b, c, d] = false := by with_unfolding_all rfl) : PZ X CT U (.Compare a [op, op', op''] [b, c, d] pos) (eChain3 g g' g'' fa fb fc fd) :=
  weakE (pe_chain3 ho ho' ho'' ha hb hc hd hm) fun σ H Q h => by
    obtain ⟨s, S, ρ, gd, en, h⟩ := h
    refine ⟨s, S, ρ, gd, en, RG.step h fun w S1 s1 H1 v x1 g1 r1 h1 => ?_⟩
    refine ⟨s1, S1, ρ, g1, en.mono x1, RG.step h1 fun ws S2 s2 H2 vs x2 g2 r2 h2 => ?_⟩
    refine hz s2 S2 H2 w ws v vs _ _ g2 (r1.mono x2) r2 (RG.step h2 fun kw S3 s3 H3 kv x3 g3 r3 h3 => ?_)
    obtain ⟨k, e, q⟩ := asB_ok (Q := fun k H => if k = true then canE X.K CT U fc σ H fun w' H4 => r' vs w' H4 fun z2 H5 => ∃ k2, z2 = .bl k2 ∧ (if k2 = true then canE X.K CT U fd σ H5 fun v' H6 => r'' w' v' H6 Q else Q (.bl false) H5) else Q (.bl false) H) g3 r3 (RG.step h3 fun k S4 s4 H4 k' x4 g4 r4 h4 => by
      subst r4
      cases k with
      | false => exact RG.here h4 g4 rfl
      | true =>
        refine ⟨s4, S4, ρ, g4, (((en.mono x1).mono x2).mono x3).mono x4, RG.step h4 fun c S5 s5 H5 cv x5 g5 r5 h5 => ?_⟩
        refine hz' s5 S5 H5 ws c vs cv _ _ g5 (((r2.mono x3).mono x4).mono x5) r5 (RG.step h5 fun kw2 S6 s6 H6 kv2 x6 g6 r6 h6 => ?_)
        obtain ⟨k2, e2, q2⟩ := asB_ok (Q := fun k2 H => if k2 = true then canE X.K CT U fd σ H fun v' H6 => r'' cv v' H6 Q else Q (.bl false) H) g6 r6 (RG.step h6 fun k S7 s7 H7 k' x7 g7 r7 h7 => by
          subst r7
          cases k with
          | false => exact RG.here h7 g7 rfl
          | true =>
            refine ⟨s7, S7, ρ, g7, ((((((en.mono x1).mono x2).mono x3).mono x4).mono x5).mono x6).mono x7, RG.step h7 fun dd S8 s8 H8 dv x8 g8 r8 h8 => ?_⟩
            exact hz'' s8 S8 H8 c dd cv dv Q _ g8 (((r5.mono x6).mono x7).mono x8) r8 h8)
        exact ⟨k2, e2, q2⟩)
    exact ⟨k, e, q⟩
end
end Z
end
-- part Z11
section
set_option Elab.async false
set_option linter.all false
set_option maxRecDepth 100000
set_option autoImplicit false
namespace Z
open PySem PySem.Spec PyProof.Rows L2
/-! ### defs whose code object is known -/
theorem funD_okC {P : Program} {w : World} {K : PySem.W.Frag} {mg : Str → Option Value} {base : Heap} {x qual : Str} {params : Arguments} {body : List Stmt} {scope : Scope} {dvs : List V} {kws : List (Str × V)} {fd : FuncData} {CX : CXT} {N ps : List Str} {k : Nat} {sp : Sp} {p : He.Defn}
    (F : FunD K x qual params body scope dvs kws (He.fAd K p) fd) (S : FnScope N ps scope) (len : ∀ vs H Q E, sp vs H Q E → vs.length = ps.length)
    (hbody : ∀ (cdv : Value) (A : Around) (outer : List PySem.Env) (s : Shared) (H : Hp) (vs : List V) (Q : VK) (E : XK), cdv = .ref (He.codeOf K p) → Room k (A.deeper (envOfC qual scope s.heap.objs.size (He.fAd K p) cdv)) → sp vs H Q E →
      ∃ t, PSs (cxOf CX P w K mg base N qual scope (He.fAd K p) cdv A outer s H E) body t ∧ t { nx := fun _ H' => Q .non H', rt := Q } (start N vs) H) : FnOk P w K mg base CX (k + 1) (He.fAd K p) fd ps sp := by
  obtain ⟨oc, od, dV, kV, doc, pm, an, cdv, ct, osl, rfl, lk, hcd, _, _⟩ := F.ex
  obtain ⟨c, hc⟩ := He.codeIn_ref hcd
  have e := He.codeOf_eq lk hc
  exact fn_of lk hcd S len fun A outer s H vs Q E hr hsp => hbody cdv A outer s H vs Q E (by rw [hc, e]) hr hsp
def DefOkC (P' : Program) (w : World) (K : PySem.W.Frag) (mg : Str → Option Value) (base : Heap) (CT : CTb) (N : List Str) (qual : Str) (st : Stmt) (p : He.Defn) (k : Nat) (body : FS) : Prop :=
  ∀ (cdv : Value) (A : Around) (s : Shared) (H : Hp) (E : XK) (o : List PySem.Env), cdv = .ref (He.codeOf K p) → Room k (cxOf (L2.CX P' w) P' w K mg base N qual (defScope st) (He.fAd K p) cdv A o s H E).A →
    Takes (cxOf (L2.CX P' w) P' w K mg base N qual (defScope st) (He.fAd K p) cdv A o s H E) (fun c d _ H => E c d H) →
    PassesOwn (model P' w) (cxOf (L2.CX P' w) P' w K mg base N qual (defScope st) (He.fAd K p) cdv A o s H E).A (cxOf (L2.CX P' w) P' w K mg base N qual (defScope st) (He.fAd K p) cdv A o s H E).env (cxOf (L2.CX P' w) P' w K mg base N qual (defScope st) (He.fAd K p) cdv A o s H E).xe →
      PZSs (cxOf (L2.CX P' w) P' w K mg base N qual (defScope st) (He.fAd K p) cdv A o s H E) CT (fun c d _ H => E c d H) (defBody st) body
section
variable {K : PySem.W.Frag} {CT : CTb}
theorem fn_pureC {P' : Program} {w : World} {mg : Str → Option Value} {base : Heap} {x qual : Str} {st : Stmt} {p : He.Defn} {fd : FuncData} {N ps : List Str} {k : Nat} {body : FS} {dvs : List V} {kws : List (Str × V)} (F : FunD K x qual (defArgs st) (defBody st) (defScope st) dvs kws (He.fAd K p) fd) (S : FnScope N ps (defScope st))
    (hb : DefOkC P' w K mg base CT N qual st p k body) : FnOk P' w K mg base (L2.CX P' w) (k + 1) (He.fAd K p) fd ps (spP K CT ps.length (runP N.length body)) := by
  refine funD_okC F S (fun vs H Q E ⟨F, ds, _, _, hl, r, _⟩ => by rw [r.length, hl]) fun cdv A outer s H vs Q E hcd hr hsp => ⟨_, hb cdv A s H E outer hcd hr (takes_of rfl rfl rfl rfl) (passes_of rfl), ?_⟩
  obtain ⟨F0, ds, eF, tb, hl, r, h⟩ := hsp
  refine ⟨⟨noT CT H, F0, []⟩, [], envOf ds N.length, Gd.start eF tb, envOf_ok r, ?_⟩
  unfold runP at h
  cases er : body (envOf ds N.length) [] with
  | nx ρ' S' => rw [er] at h; exact fun s' H' σ' x g en => h s'.F H' _ (left_of x g) rfl
  | rt w S' =>
    rw [er] at h
    intro s' H' v x g rw
    simp only at h
    cases ef : frz S' w with
    | none => rw [ef] at h; exact h.elim
    | some q =>
      obtain ⟨p, S2⟩ := q
      rw [ef] at h
      obtain ⟨s2, x2, g2, r2⟩ := frz_ok g rw ef
      exact h s2.F H' v (left_of (x.trans x2) g2) r2
  | ex x ρ' S' => rw [er] at h; exact fun s' H' σ' c dd x g en q => h s'.F H' c dd (left_of x g) q
  | bk ρ' S' => rw [er] at h; exact h.elim
  | ct ρ' S' => rw [er] at h; exact h.elim
  | bad => rw [er] at h; exact h.elim
end
section
variable {K : PySem.W.Frag} {CT : CTb} {c x : Str} {k n : Nat} {fd : FuncData} {g : List P → Rp}
theorem fn_initC {K : PySem.W.Frag} {P' : Program} {w : World} {mg : Str → Option Value} {base : Heap} {qual : Str} {p : He.Defn} {st : Stmt} {N ps : List Str} {body : FS} {dvs : List V} {kws : List (Str × V)} (F : FunD K x qual (defArgs st) (defBody st) (defScope st) dvs kws (He.fAd K p) fd) (S : FnScope N ps (defScope st)) (hN : N.length = N.length - 1 + 1) (hps : ps.length = n + 1)
    (hb : DefOkC P' w K mg base CT N qual st p k body) : FnOk P' w K mg base (L2.CX P' w) (k + 1) (He.fAd K p) fd ps (spI K CT c n (runI c N.length body)) := by
  refine funD_okC F S (fun vs H Q E ⟨F, ds, a, dx, vs', e, _, _, _, _, hl, r, _⟩ => by rw [e, List.length_cons, r.length, hl, hps]) fun cdv A outer s H vs Q E hcd hr hsp => ⟨_, hb cdv A s H E outer hcd hr (takes_of rfl rfl rfl rfl) (passes_of rfl), ?_⟩
  obtain ⟨F0, ds, a, dx, vs', rfl, eF, tb, Fa, Ha, hl, r, h⟩ := hsp
  generalize hHm : (fun b => if b = a then none else H b : Hp) = Hm at h
  have aT : a ∉ CT.tabs := fun z => by
    obtain ⟨⟨ps, hp, _⟩, _⟩ := tb a z
    rw [Ha] at hp; cases hp
  have eGa : noT CT Hm a = none := by rw [noT_at aT, ← hHm]; simp
  have eG : Ex (noT CT Hm) H := fun b o e => by
    have e := noT_ex Hm b o e
    rw [← hHm] at e
    by_cases q : b = a
    · simp [q] at e
    · simpa [q] using e
  have g0 : Gd K CT ⟨noT CT Hm, F0, [a]⟩ [.ins c [] []] H := by
    refine ⟨eF, eG, rfl, fun i cl b h1 h2 => ?_, fun i j c1 c2 b h1 h2 l1 l2 e1 e2 => ?_, fun P hP => (tb P hP).1, fun P hP => (tb P hP).2, fun P hP => noT_tab hP⟩
    · cases i with
      | zero => cases h1; cases h2; exact ⟨Fa, eGa, dx, [], Ha, rfl, rfl⟩
      | succ i => simp at h1
    · cases i with
      | zero =>
        cases j with
        | zero => rfl
        | succ j => simp at h2
      | succ i => simp at h1
  have en0 : EnvOk K CT ⟨noT CT Hm, F0, [a]⟩ (some (.loc 0) :: envOf ds (N.length - 1)) (start N (.ref a :: vs')) := by
    have lz := r.length
    refine ⟨by simp [envOf, L2.start]; omega, fun i w e => ?_⟩
    cases i with
    | zero =>
      cases e
      exact ⟨.ref a, rfl, a, rfl, rfl⟩
    | succ i =>
      have e' : (envOf ds (N.length - 1))[i]? = some (some w) := by simpa using e
      have q := (envOf_ok (N := N.drop 1) (G := noT CT Hm) (m := [a]) r).get i w (by simpa using e')
      obtain ⟨v, hv, rv⟩ := q
      refine ⟨v, ?_, rv⟩
      have : start N (.ref a :: vs') = some (.ref a) :: start (N.drop 1) vs' := by
        unfold L2.start
        rw [List.map_cons, List.cons_append, List.length_cons, List.length_drop]
        congr 3
        omega
      rw [this]
      simpa using hv
  have lf : ∀ {s' : Fs} {S' : Store} {H' : Hp}, Ext ⟨noT CT Hm, F0, [a]⟩ s' → Gd K CT s' S' H' → Left CT F0 Hm s'.F H' := fun x g => ⟨x.f, by have := g.exG; rw [← x.g] at this; exact this, g.exF, x.new, g.tb⟩
  refine ⟨_, _, _, g0, en0, ?_⟩
  unfold runI at h
  have fin : ∀ {S' : Store} {s' : Fs} {H' : Hp}, Ext ⟨noT CT Hm, F0, [a]⟩ s' → Gd K CT s' S' H' → RP K CT F0 Hm (match frz S' (.loc 0) with | some (p, _) => .ok p | none => .bad) (fun v H' => v = .ref a → Q .non H') E → Q .non H' := fun {S' s' H'} x g h => by
    cases ef : frz S' (.loc 0) with
    | none => rw [ef] at h; exact h.elim
    | some q =>
      obtain ⟨p, S2⟩ := q
      rw [ef] at h
      obtain ⟨s2, x2, g2, r2⟩ := frz_ok (w := .loc 0) (v := .ref a) g ⟨a, x.m 0 a rfl, rfl⟩ ef
      exact h s2.F H' (.ref a) (lf (x.trans x2) g2) r2 rfl
  cases er : body (some (.loc 0) :: envOf ds (N.length - 1)) [.ins c [] []] with
  | nx ρ' S' => rw [er] at h; exact fun s' H' σ' x g en => fin x g h
  | rt w S' =>
    rw [er] at h
    intro s' H' v x g rv
    cases w with
    | loc n => exact h.elim
    | val p =>
      cases p with
      | non => rw [show v = _ from rv]; exact fin x g h
      | _ => exact h.elim
  | ex x ρ' S' => rw [er] at h; exact fun s' H' σ' c dd x g en q => h s'.F H' c dd (lf x g) q
  | bk ρ' S' => rw [er] at h; exact h.elim
  | ct ρ' S' => rw [er] at h; exact h.elim
  | bad => rw [er] at h; exact h.elim
end
/-- the tables of the defs -/
structure TabsOk (K : PySem.W.Frag) (mg : Str → Option Value) (base : Heap) (tf : List He.Defn) : Prop where
  ok : ∀ p ∈ tf, LamX.TabB base mg (He.cT K p).1 (He.cT K p).2
theorem TabsOk.at {K : PySem.W.Frag} {mg : Str → Option Value} {base : Heap} {tf : List He.Defn} (h : TabsOk K mg base tf) (p : He.Defn) (hp : p ∈ tf) : GxR.TabB base mg (He.codeOf K p) (He.cT K p).2 := ⟨(h.ok p hp).code, (h.ok p hp).bm, (h.ok p hp).gP⟩
abbrev ctOf (K : PySem.W.Frag) (tf : List He.Defn) : CTb := ⟨He.ga K, tf.map fun p => (He.cT K p).2⟩
theorem tab_mem {K : PySem.W.Frag} {tf : List He.Defn} (p : He.Defn) (hp : p ∈ tf) : (He.cT K p).2 ∈ (ctOf K tf).tabs := List.mem_map.mpr ⟨p, hp, rfl⟩
section
variable {X : Cx} {CT : CTb} {U : WX} {a : Expr} {ga : FE (List W)} {pos p : Pos}
/-- tuple(list), tuple(tuple) -/
def tupleW : List W → Store → RE W
  | [.val (.tup ps)], S => .ok (.val (.tup ps)) S
  | [w], S => match seqW S w with
    | some ws => (doFrzs ws S).bind fun ps S2 => .ok (.val (.tup ps)) S2
    | none => .bad
  | _, _ => .bad
theorem cz_tuple {K : PySem.W.Frag} : CallZ K CT (fun xs H Q => ∃ p ys, xs = [.ref p] ∧ ((SqL K H p ys ∧ ∀ l, H l = none → Q (.ref l) (upd H l (.tup ys))) ∨ (SqT K H p ys ∧ Q (.ref p) H))) tupleW := fun s S H ws vs Q EX gd r h => by
  unfold tupleW at h
  split at h
  · rename_i ps
    obtain ⟨v, rfl, rw⟩ := rep1 r
    obtain ⟨a, vs, rfl, h1, h2⟩ := id rw
    exact ⟨a, vs, rfl, .inr ⟨gd.exF.st h1, RG.here h gd rw⟩⟩
  · rename_i w _
    obtain ⟨v, rfl, rw⟩ := rep1 r
    split at h
    · rename_i ws e
      obtain ⟨a, vs, rfl, h1, h2⟩ := seqW_ok gd rw e
      obtain ⟨ps, S2, s2, x2, g2, r2, h2⟩ := RG.frzs gd h2 h
      exact ⟨a, vs, rfl, .inl ⟨h1, fun p hp => RG.new h2 g2 hp fun F' e q => ⟨p, _, rfl, .inl (.inl q), r2.mono e⟩⟩⟩
    · exact h.elim
  · exact h.elim
theorem pz_tuple (hg : Gl X "tuple") (hm : X.mg "tuple" = none) (ha : PZA X CT U [a] ga) (he : starEach [a] X.env = (false, eval a X.env) :: starEach [] X.env := by rfl) : PZ X CT U (.Call (.Name "tuple" p) [a] [] pos) (eCB tupleW ga) :=
  pz_callTy call_tuple_of cz_tuple hg hm (by decide +kernel) ha (by decide) (by decide) he rfl
end

/-! ### tables of exceptions -/
theorem lookup_mem {α β : Type} [BEq α] [LawfulBEq α] {k : α} {v : β} : ∀ {l : List (α × β)}, l.lookup k = some v → (k, v) ∈ l
  | [], h => by cases h
  | (a, b) :: l, h => by
    rw [List.lookup_cons] at h
    cases e : k == a with
    | true =>
      rw [e] at h
      cases h
      rw [eq_of_beq e]
      exact List.mem_cons_self
    | false =>
      rw [e] at h
      exact List.mem_cons_of_mem _ (lookup_mem h)
section
variable {K : PySem.W.Frag} {h : Heap} {mg : Str → Option Value} {CT : CTb}
theorem exc_mk {x : Str} (c : PySem.W.excIn K (CT x) He.veBase "ValueError.__new__" = true ∧ PySem.W.keepIn K (.ref (CT x)) = true ∧ PySem.W.subIn K (.ref (CT x)) (.type "BaseException") = some true ∧
    PySem.W.typeIn K (.ref (CT x)) = some (.type "type")) (g : mg x = some (.ref (CT x))) : ExcF K mg CT x := ⟨c.1, g, c.2.1, c.2.2.1, c.2.2.2⟩
/-- texts and numbers of a table -/
def dvOk : He.Dv → Bool
  | .int _ => true
  | .str _ => true
  | _ => false
def dvP : He.Dv → P
  | .int i => .int i
  | .str x => .str x
  | _ => .non
theorem dv_rep {F : Hp} : ∀ {ds : List He.Dv}, ds.all dvOk = true → RepL K CT F (ds.map dvP) (ds.map (He.Dv.v K))
  | [], _ => rfl
  | d :: ds, e => by
    rw [List.all_cons, Bool.and_eq_true] at e
    cases d with
    | int i => exact ⟨_, _, rfl, rfl, dv_rep e.2⟩
    | str i => exact ⟨_, _, rfl, rfl, dv_rep e.2⟩
    | _ => exact absurd e.1 (by simp [dvOk])
theorem glo_tup {x : Str} {ds : List He.Dv} (c : He.tupB K x ds = true) (g : mg x = some (.ref (He.ga K x))) (e : ds.all dvOk = true) (ps : List P) (hp : ds.map dvP = ps := by rfl) : GloOk K CT mg x (.tup ps) := by
  subst hp
  exact ⟨_, .ref (He.ga K x), g, rfl, _, _, rfl, He.tupB_ok c _, dv_rep e⟩
end

/-! ### a law's end -/
theorem sp_law {K : PySem.W.Frag} {CT : CTb} {m : List P → Rp} {n : Nat} (h : ∀ ns : List Int, ns.length ≤ n → m [.scr ns] = .ok (.bl true)) (H : Hp) (a : Addr) (ns : List Int) (hl : ns.length ≤ n) (ht : ∀ P ∈ CT.tabs, H P = some (.tbl #[])) (S : SqL K H a (ns.map V.int)) :
    spP K CT 1 m [.ref a] H (fun v _ => v = .bl true) fun _ _ _ => False := by
  have S' : SqL K (noT CT H) a (ns.map V.int) := by
    rcases S with S | S
    · refine .inl ?_
      rcases S with S | ⟨o, S⟩
      · exact .inl (by rw [noT_at (fun z => by rw [ht a z] at S; cases S)]; exact S)
      · exact .inr ⟨o, by rw [noT_at (fun z => by rw [ht a z] at S; cases S)]; exact S⟩
    · exact .inr S
  refine ⟨noT CT H, [.scr ns], noT_ex H, fun P hP => ⟨⟨#[], ht P hP, trivial⟩, noT_tab hP⟩, rfl, ⟨_, _, rfl, ⟨a, rfl, S'⟩, rfl⟩, ?_⟩
  rw [h ns hl]
  exact fun F' H' v _ h => h
theorem cx_no {P' : Program} (w : World) (H : Hp) (s : Shared) (e : Value) (s' : Shared) : L2.CX P' w [] H s (fun _ _ _ => False) e s' → False := fun ⟨_, _, _, _, _, _, _, _, _, _, _, _, h⟩ => h
end Z
end
-- part Z12
section
set_option Elab.async false
set_option linter.all false
set_option maxRecDepth 100000
set_option autoImplicit false
namespace Z
open PySem PySem.Spec PyProof.Rows L2
/-! # the plain side: rules that compute a mirror -/
theorem charN_inj {a b : Char} (h : a.toNat = b.toNat) : a = b := Char.ext (UInt32.toNat_inj.mp h)
@[simp] theorem ofString_inj {a b : String} : (Str.ofString a = Str.ofString b) ↔ (a = b) := by
  constructor
  · intro h
    rw [Str.ofString_eq_toList, Str.ofString_eq_toList] at h
    have h1 := congrArg (fun s => s.cps.toList) h
    simp only at h1
    have h2 : a.toList = b.toList := by
      have key : ∀ (l m : List Char), l.map Char.toNat = m.map Char.toNat → l = m := by
        intro l
        induction l with
        | nil => intro m h; cases m with
          | nil => rfl
          | cons _ _ => cases h
        | cons c l ih => intro m h; cases m with
          | nil => cases h
          | cons d m =>
            simp only [List.map_cons, List.cons.injEq] at h
            rw [charN_inj h.1, ih m h.2]
      exact key _ _ (by simpa using h1)
    exact String.toList_inj.mp h2
  · intro h; rw [h]
variable {α β σ : Type}
/-! bind, toR, sequence -/
@[simp] theorem rb_ok (a : α) (S : Store) (k : α → Store → RE β) : (RE.ok a S).bind k = k a S := id rfl
@[simp] theorem rb_ex (x : Xn) (S : Store) (k : α → Store → RE β) : (RE.ex x S : RE α).bind k = .ex x S := id rfl
@[simp] theorem rb_bad (k : α → Store → RE β) : (RE.bad : RE α).bind k = .bad := id rfl
@[simp] theorem rb_ite (c : Prop) [Decidable c] (a b : RE α) (k : α → Store → RE β) : (if c then a else b).bind k = if c then a.bind k else b.bind k := by split <;> rfl
@[simp] theorem tr_ok (a : α) (S : Store) (ρ : Env) (k : α → Store → R) : (RE.ok a S).toR ρ k = k a S := id rfl
@[simp] theorem tr_ex (x : Xn) (S : Store) (ρ : Env) (k : α → Store → R) : (RE.ex x S : RE α).toR ρ k = .ex x ρ S := id rfl
@[simp] theorem tr_bad (ρ : Env) (k : α → Store → R) : (RE.bad : RE α).toR ρ k = .bad := id rfl
@[simp] theorem tr_ite (c : Prop) [Decidable c] (a b : RE α) (ρ : Env) (k : α → Store → R) : (if c then a else b).toR ρ k = if c then a.toR ρ k else b.toR ρ k := by split <;> rfl
def R.seq (r : R) (g : FS) : R := match r with
  | .nx ρ' S' => g ρ' S'
  | r => r
@[simp] theorem sSeq_ap (f g : FS) (ρ : Env) (S : Store) : sSeq f g ρ S = (f ρ S).seq g := id rfl
@[simp] theorem rs_nx (ρ : Env) (S : Store) (g : FS) : (R.nx ρ S).seq g = g ρ S := id rfl
@[simp] theorem rs_rt (w : W) (S : Store) (g : FS) : (R.rt w S).seq g = .rt w S := id rfl
@[simp] theorem rs_bk (ρ : Env) (S : Store) (g : FS) : (R.bk ρ S).seq g = .bk ρ S := id rfl
@[simp] theorem rs_ct (ρ : Env) (S : Store) (g : FS) : (R.ct ρ S).seq g = .ct ρ S := id rfl
@[simp] theorem rs_ex (x : Xn) (ρ : Env) (S : Store) (g : FS) : (R.ex x ρ S).seq g = .ex x ρ S := id rfl
@[simp] theorem rs_bad (g : FS) : R.bad.seq g = .bad := id rfl
@[simp] theorem rs_ite (c : Prop) [Decidable c] (a b : R) (g : FS) : (if c then a else b).seq g = if c then a.seq g else b.seq g := by split <;> rfl
@[simp] theorem sSkip_ap (ρ : Env) (S : Store) : sSkip ρ S = .nx ρ S := id rfl
@[simp] theorem sBrk_ap (ρ : Env) (S : Store) : sBrk ρ S = .bk ρ S := id rfl
@[simp] theorem sCnt_ap (ρ : Env) (S : Store) : sCnt ρ S = .ct ρ S := id rfl
@[simp] theorem sRetN_ap (ρ : Env) (S : Store) : sRetN ρ S = .rt (.val .non) S := id rfl
@[simp] theorem sAsg_ap (i : Nat) (f : FE W) (ρ : Env) (S : Store) : sAsg i f ρ S = (f ρ S).toR ρ fun w S' => .nx (ρ.set i (some w)) S' := id rfl
@[simp] theorem sExpr_ap (f : FE W) (ρ : Env) (S : Store) : sExpr f ρ S = (f ρ S).toR ρ fun _ S' => .nx ρ S' := id rfl
@[simp] theorem sRet_ap (f : FE W) (ρ : Env) (S : Store) : sRet f ρ S = (f ρ S).toR ρ fun w S' => .rt w S' := id rfl
@[simp] theorem sIf_ap (c : FE Bool) (f g : FS) (ρ : Env) (S : Store) : sIf c f g ρ S = (c ρ S).toR ρ fun b S' => if b = true then f ρ S' else g ρ S' := id rfl
@[simp] theorem sFor_ap (fi : FI) (t : Tg) (body : FS) (ρ : Env) (S : Store) : sFor fi t body ρ S = (fi ρ S).toR ρ fun ps S1 => forGo t body ps ρ S1 := id rfl
@[simp] theorem sRaise_ap (c : Str) (ρ : Env) (S : Store) : sRaise c ρ S = .ex ⟨c, [], []⟩ ρ S := id rfl
def ixR (ρ : Env) (i : Nat) (k : W → R) : R := match ρ[i]? with
  | some (some a) => k a
  | _ => .bad
@[simp] theorem sAug_ap (i : Nat) (op : O2) (fe : FE W) (ρ : Env) (S : Store) : sAug i op fe ρ S = ixR ρ i fun a => (fe ρ S).toR ρ fun b S1 => (op a b S1).toR ρ fun w S2 => .nx (ρ.set i (some w)) S2 := id rfl
@[simp] theorem ixR_0 (w : W) (ρ : Env) (k : W → R) : ixR (some w :: ρ) 0 k = k w := id rfl
@[simp] theorem ixR_s (o : Option W) (ρ : Env) (i : Nat) (k : W → R) : ixR (o :: ρ) (i + 1) k = ixR ρ i k := id rfl
def bindR (o : Option Env) (S : Store) : R := match o with
  | some ρ => .nx ρ S
  | none => .bad
@[simp] theorem bindR_some (ρ : Env) (S : Store) : bindR (some ρ) S = .nx ρ S := id rfl
@[simp] theorem bindR_none (S : Store) : bindR none S = .bad := id rfl
@[simp] theorem sAsgT_ap (t : Tg) (f : FE W) (ρ : Env) (S : Store) : sAsgT t f ρ S = (f ρ S).toR ρ fun w S' => (doFrz w S').toR ρ fun p S2 => bindR (bindT t p ρ) S2 := by
  unfold sAsgT bindR
  congr 1
/-! names -/
@[simp] theorem eVar_0 (w : W) (ρ : Env) (S : Store) : eVar 0 (some w :: ρ) S = .ok w S := id rfl
@[simp] theorem eVar_s (o : Option W) (ρ : Env) (i : Nat) (S : Store) : eVar (i + 1) (o :: ρ) S = eVar i ρ S := id rfl
@[simp] theorem eCst_ap (p : P) (ρ : Env) (S : Store) : eCst p ρ S = .ok (.val p) S := id rfl
@[simp] theorem cYes_ap (ρ : Env) (S : Store) : cYes ρ S = .ok true S := id rfl
@[simp] theorem bindT_nm (i : Nat) (p : P) (ρ : Env) : bindT (.nm i) p ρ = some (ρ.set i (some (.val p))) := by simp [bindT]
@[simp] theorem bindT_tp (ts : List Tg) (ps : List P) (ρ : Env) : bindT (.tp ts) (.tup ps) ρ = bindTs ts ps ρ := by simp [bindT]
@[simp] theorem bindTs_nil (ρ : Env) : bindTs [] [] ρ = some ρ := by simp [bindTs]
@[simp] theorem bindTs_cons (t : Tg) (ts : List Tg) (p : P) (ps : List P) (ρ : Env) : bindTs (t :: ts) (p :: ps) ρ = (bindT t p ρ).bind (bindTs ts ps) := by simp [bindTs]
/-! arguments, operators -/
@[simp] theorem aNil_ap (ρ : Env) (S : Store) : aNil ρ S = .ok [] S := id rfl
@[simp] theorem aCons_ap (f : FE W) (r : FE (List W)) (ρ : Env) (S : Store) : aCons f r ρ S = (f ρ S).bind fun w S1 => (r ρ S1).bind fun ws S2 => .ok (w :: ws) S2 := id rfl
@[simp] theorem eBin_ap (op : O2) (fa fb : FE W) (ρ : Env) (S : Store) : eBin op fa fb ρ S = (fa ρ S).bind fun a S1 => (fb ρ S1).bind fun b S2 => op a b S2 := id rfl
@[simp] theorem eUn_ap (op : W → Store → RE W) (fa : FE W) (ρ : Env) (S : Store) : eUn op fa ρ S = (fa ρ S).bind fun a S1 => op a S1 := id rfl
@[simp] theorem asB_bl (b : Bool) (S : Store) : asB (.val (.bl b)) S = .ok b S := id rfl
@[simp] theorem tstB_ap (f : FE W) (ρ : Env) (S : Store) : tstB f ρ S = (f ρ S).bind asB := id rfl
@[simp] theorem tNotB_ap (f : FE Bool) (ρ : Env) (S : Store) : tNotB f ρ S = (f ρ S).bind fun b S1 => .ok (!b) S1 := id rfl
@[simp] theorem tAndB_ap (f u : FE Bool) (ρ : Env) (S : Store) : tAndB f u ρ S = (f ρ S).bind fun b S1 => if b = true then u ρ S1 else .ok false S1 := id rfl
@[simp] theorem tOrB_ap (f u : FE Bool) (ρ : Env) (S : Store) : tOrB f u ρ S = (f ρ S).bind fun b S1 => if b = true then .ok true S1 else u ρ S1 := id rfl
@[simp] theorem eChain_ap (g g' : O2) (fa fb fc : FE W) (ρ : Env) (S : Store) : eChain g g' fa fb fc ρ S = (fa ρ S).bind fun a S1 => (fb ρ S1).bind fun b S2 => (g a b S2).bind fun k S3 => (asB k S3).bind fun k S4 => if k = true then (fc ρ S4).bind fun c S5 => g' b c S5 else .ok (.val (.bl false)) S4 := id rfl
@[simp] theorem eAnd_ap (fa fb : FE W) (ρ : Env) (S : Store) : eAnd fa fb ρ S = (fa ρ S).bind fun a S1 => (asB a S1).bind fun k S2 => if k = true then fb ρ S2 else .ok (.val (.bl false)) S2 := id rfl
@[simp] theorem eOr_ap (fa fb : FE W) (ρ : Env) (S : Store) : eOr fa fb ρ S = (fa ρ S).bind fun a S1 => (asB a S1).bind fun k S2 => if k = true then .ok (.val (.bl true)) S2 else fb ρ S2 := id rfl
@[simp] theorem eNot_ap (fa : FE W) (ρ : Env) (S : Store) : eNot fa ρ S = (fa ρ S).bind fun a S1 => (asB a S1).bind fun k S2 => .ok (.val (.bl (!k))) S2 := id rfl
@[simp] theorem eIf_ap (t : FE Bool) (fa fb : FE W) (ρ : Env) (S : Store) : eIf t fa fb ρ S = (t ρ S).bind fun k S1 => if k = true then fa ρ S1 else fb ρ S1 := id rfl
@[simp] theorem iOp_int (C : Int → Int → Bool) (g : Int → Int → P) (i j : Int) (S : Store) : iOp C g (.val (.int i)) (.val (.int j)) S = if C i j = true then .ok (.val (g i j)) S else .bad := id rfl
@[simp] theorem negW_int (i : Int) (S : Store) : negW (.val (.int i)) S = .ok (.val (.int (-i))) S := id rfl
@[simp] theorem addW_int (i j : Int) (S : Store) : addW (.val (.int i)) (.val (.int j)) S = .ok (.val (.int (i + j))) S := id rfl
@[simp] theorem addW_str (i j : Str) (S : Store) : addW (.val (.str i)) (.val (.str j)) S = if i.length + j.length ≤ 1000000 then .ok (.val (.str (i ++ j))) S else .bad := id rfl
@[simp] theorem addW_tup (i j : List P) (S : Store) : addW (.val (.tup i)) (.val (.tup j)) S = if i.length + j.length ≤ 100000 then .ok (.val (.tup (i ++ j))) S else .bad := id rfl
@[simp] theorem addW_lst (i j : List P) (S : Store) : addW (.val (.lst i)) (.val (.lst j)) S = if i.length + j.length ≤ 100000 then .ok (.val (.lst (i ++ j))) S else .bad := id rfl
@[simp] theorem mulW_int (i j : Int) (S : Store) : mulW (.val (.int i)) (.val (.int j)) S = if mulOk i j = true then .ok (.val (.int (i * j))) S else .bad := id rfl
@[simp] theorem mulW_lst (ps : List P) (k : Int) (S : Store) : mulW (.val (.lst ps)) (.val (.int k)) S = if k < 100000 ∧ -100000 < k ∧ ps.length * k.toNat ≤ 100000 then .ok (.val (.lst (List.replicate k.toNat ps).flatten)) S else .bad := id rfl
theorem rep_flat (p : P) : ∀ n : Nat, (List.replicate n [p]).flatten = List.replicate n p
  | 0 => rfl
  | n + 1 => by rw [List.replicate_succ, List.flatten_cons, rep_flat p n, List.replicate_succ]; rfl
theorem mulOk_l {i j : Int} (h : i.natAbs < 2 ^ 64) : mulOk i j = true := by simp [mulOk, h]
theorem mulOk_r {i j : Int} (h : j.natAbs < 2 ^ 64) : mulOk i j = true := by simp [mulOk, h]
def eqR (neg : Bool) (o : Option Bool) (S : Store) : RE W := match o with
  | some k => .ok (.val (.bl (if neg = true then !k else k))) S
  | none => .bad
@[simp] theorem eqR_some (neg k : Bool) (S : Store) : eqR neg (some k) S = .ok (.val (.bl (if neg = true then !k else k))) S := id rfl
@[simp] theorem eqW_vv (neg : Bool) (p q : P) (S : Store) : eqW neg (.val p) (.val q) S = eqR neg (eqP p q) S := id rfl
@[simp] theorem eqP_int (i j : Int) : eqP (.int i) (.int j) = some (decide (i = j)) := id rfl
@[simp] theorem eqP_str (i j : Str) : eqP (.str i) (.str j) = some (decide (i = j)) := id rfl
@[simp] theorem eqP_bl (i j : Bool) : eqP (.bl i) (.bl j) = some (decide (i = j)) := id rfl
@[simp] theorem isW_non (neg : Bool) (S : Store) : isW neg (.val .non) (.val .non) S = .ok (.val (.bl (!neg))) S := by cases neg <;> rfl
@[simp] theorem isW_int (neg : Bool) (i : Int) (S : Store) : isW neg (.val (.int i)) (.val .non) S = .ok (.val (.bl neg)) S := by cases neg <;> rfl
@[simp] theorem isW_str (neg : Bool) (i : Str) (S : Store) : isW neg (.val (.str i)) (.val .non) S = .ok (.val (.bl neg)) S := by cases neg <;> rfl
@[simp] theorem isW_bl (neg : Bool) (i : Bool) (S : Store) : isW neg (.val (.bl i)) (.val .non) S = .ok (.val (.bl neg)) S := by cases neg <;> rfl
@[simp] theorem isW_blbl (neg : Bool) (i k : Bool) (S : Store) : isW neg (.val (.bl i)) (.val (.bl k)) S = .ok (.val (.bl (if neg = true then !(i == k) else i == k))) S := by cases neg <;> rfl
@[simp] theorem isW_tup (neg : Bool) (i : List P) (S : Store) : isW neg (.val (.tup i)) (.val .non) S = .ok (.val (.bl neg)) S := by cases neg <;> rfl
@[simp] theorem isW_lst (neg : Bool) (i : List P) (S : Store) : isW neg (.val (.lst i)) (.val .non) S = .ok (.val (.bl neg)) S := by cases neg <;> rfl
@[simp] theorem isW_loc (neg : Bool) (i : Nat) (S : Store) : isW neg (.loc i) (.val .non) S = .ok (.val (.bl neg)) S := by cases neg <;> rfl
/-! freezing -/
@[simp] theorem doFrz_val (p : P) (S : Store) : doFrz (.val p) S = .ok p S := id rfl
@[simp] theorem frzs_nil (S : Store) : frzs S [] = some ([], S) := id rfl
@[simp] theorem frzs_val (p : P) (ws : List W) (S : Store) : frzs S (.val p :: ws) = (frzs S ws).map fun q => (p :: q.1, q.2) := by rw [frzs]; rfl
theorem frzs_vals (S : Store) : ∀ ps : List P, frzs S (ps.map .val) = some (ps, S)
  | [] => rfl
  | p :: ps => by rw [List.map_cons, frzs_val, frzs_vals S ps]; rfl
@[simp] theorem doFrzs_nil (S : Store) : doFrzs [] S = .ok [] S := id rfl
theorem doFrzs_cons (w : W) (ws : List W) (S : Store) : doFrzs (w :: ws) S = (doFrz w S).bind fun p S1 => (doFrzs ws S1).bind fun ps S2 => .ok (p :: ps) S2 := by
  unfold doFrzs doFrz
  rw [frzs]
  cases frz S w with
  | none => rfl
  | some r =>
    simp only [Option.bind_some, rb_ok]
    cases frzs r.2 ws with
    | none => rfl
    | some q => rfl
@[simp] theorem valAll_nil : valAll [] = some [] := id rfl
@[simp] theorem valAll_val (p : P) (ws : List W) : valAll (.val p :: ws) = (valAll ws).map (p :: ·) := id rfl
@[simp] theorem valAll_map (f : α → P) : ∀ xs : List α, valAll (xs.map fun x => .val (f x)) = some (xs.map f)
  | [] => rfl
  | x :: xs => by rw [List.map_cons, valAll_val, valAll_map f xs]; rfl
@[simp] theorem valAll_ps (xs : List P) : valAll (xs.map .val) = some xs := by have := valAll_map id xs; simpa using this
@[simp] theorem valAll_append (xs ys : List W) : valAll (xs ++ ys) = (valAll xs).bind fun a => (valAll ys).map fun b => a ++ b := by
  induction xs with
  | nil => simp
  | cons w xs ih =>
    cases w with
    | loc n => rfl
    | val p =>
      rw [List.cons_append, valAll_val, valAll_val, ih]
      cases valAll xs <;> cases valAll ys <;> rfl
theorem doFrz_lst {S : Store} {n : Nat} {ws : List W} {ps : List P} (h : S[n]? = some (.lst ws)) (hv : valAll ws = some ps) : doFrz (.loc n) S = .ok (.lst ps) (S.set n (.frz (.lst ps))) := by
  simp [doFrz, frz, frz1, h, hv]
theorem doFrz_frz {S : Store} {n : Nat} {p : P} (h : S[n]? = some (.frz p)) : doFrz (.loc n) S = .ok p S := by
  simp [doFrz, frz, frz1, h]
/-! displays, calls -/
@[simp] theorem eTup_ap (fa : FE (List W)) (ρ : Env) (S : Store) : eTup fa ρ S = (fa ρ S).bind fun ws S1 => (doFrzs ws S1).bind fun ps S2 => if ps.length ≤ 100000 then .ok (.val (.tup ps)) S2 else .bad := id rfl
@[simp] theorem eLstP_ap (fa : FE (List W)) (ρ : Env) (S : Store) : eLstP fa ρ S = (fa ρ S).bind fun ws S1 => (doFrzs ws S1).bind fun ps S2 => if ps.length ≤ 100000 then .ok (.val (.lst ps)) S2 else .bad := id rfl
@[simp] theorem eLst_ap (fa : FE (List W)) (ρ : Env) (S : Store) : eLst fa ρ S = (fa ρ S).bind fun ws S1 => if ws.length ≤ 100000 then .ok (.loc S1.length) (S1 ++ [.lst ws]) else .bad := id rfl
@[simp] theorem eCB_ap (op : List W → Store → RE W) (fa : FE (List W)) (ρ : Env) (S : Store) : eCB op fa ρ S = (fa ρ S).bind op := id rfl
@[simp] theorem eCall_ap (n : Nat) (g : List P → Rp) (fa : FE (List W)) (ρ : Env) (S : Store) : eCall n g fa ρ S = (fa ρ S).bind fun ws S1 => (doFrzs ws S1).bind fun ps S2 => if ps.length = n then liftP (g ps) S2 else .bad := id rfl
@[simp] theorem liftP_ok (p : P) (S : Store) : liftP (.ok p) S = .ok (.val p) S := id rfl
@[simp] theorem liftP_ex (p : Xn) (S : Store) : liftP (.ex p) S = .ex p S := id rfl
@[simp] theorem liftP_ite (c : Prop) [Decidable c] (a b : Rp) (S : Store) : liftP (if c then a else b) S = if c then liftP a S else liftP b S := by split <;> rfl
def isObjC (c m : Str) (p : P) : Bool := match p with
  | .obj c' ns _ => decide (c' = c) && !ns.contains m
  | _ => false
@[simp] theorem isObjC_obj (c m c' : Str) (ns : List Str) (qs : List P) : isObjC c m (.obj c' ns qs) = (decide (c' = c) && !ns.contains m) := id rfl
@[simp] theorem eMeth_ap (c m : Str) (n : Nat) (g : List P → Rp) (fo : FE W) (fa : FE (List W)) (ρ : Env) (S : Store) : eMeth c m n g fo fa ρ S = (fo ρ S).bind fun w S1 => (doFrz w S1).bind fun p S2 =>
    if isObjC c m p = true then (fa ρ S2).bind fun ws S3 => (doFrzs ws S3).bind fun ps S4 => if ps.length + 1 = n then liftP (g (p :: ps)) S4 else .bad else .bad := by
  unfold eMeth
  congr 1
  funext w S1
  congr 1
  funext p S2
  cases p with
  | obj c' ns qs =>
    simp only [isObjC_obj, Bool.and_eq_true, decide_eq_true_eq, Bool.not_eq_true']
  | _ => rfl
@[simp] theorem orBad_some (a : α) (S : Store) : orBad (some a) S = .ok a S := id rfl
@[simp] theorem orBad_none (S : Store) : orBad (none : Option α) S = .bad := id rfl
/-! sequences -/
@[simp] theorem seqW_lst (S : Store) (ps : List P) : seqW S (.val (.lst ps)) = some (ps.map .val) := id rfl
@[simp] theorem seqW_scr (S : Store) (ns : List Int) : seqW S (.val (.scr ns)) = some (ns.map fun n => .val (.int n)) := id rfl
theorem seqW_loc {S : Store} {n : Nat} {ws : List W} (h : S[n]? = some (.lst ws)) : seqW S (.loc n) = some ws := by simp [seqW, h]
@[simp] theorem lenW_lst (S : Store) (ps : List P) : lenW [.val (.lst ps)] S = .ok (.val (.int ps.length)) S := by simp [lenW, lenOf]
@[simp] theorem lenW_tup (S : Store) (ps : List P) : lenW [.val (.tup ps)] S = .ok (.val (.int ps.length)) S := by simp [lenW, lenOf]
@[simp] theorem lenW_scr (S : Store) (ps : List Int) : lenW [.val (.scr ps)] S = .ok (.val (.int ps.length)) S := by simp [lenW, lenOf]
@[simp] theorem lenW_loc (S : Store) (n : Nat) : lenW [.loc n] S = orBad ((seqW S (.loc n)).map fun ws => W.val (.int (ws.length : Int))) S := by
  cases h : seqW S (.loc n) <;> simp [lenW, lenOf, h]
@[simp] theorem absW_int (S : Store) (i : Int) : absW [.val (.int i)] S = .ok (.val (.int (if i < 0 then -i else i))) S := id rfl
@[simp] theorem intW_int (S : Store) (i : Int) : intW [.val (.int i)] S = .ok (.val (.int i)) S := id rfl
@[simp] theorem intW_bl (S : Store) (i : Bool) : intW [.val (.bl i)] S = .ok (.val (.int (if i = true then 1 else 0))) S := id rfl
@[simp] theorem max2W_int (S : Store) (i j : Int) : max2W [.val (.int i), .val (.int j)] S = .ok (.val (.int (if j > i then j else i))) S := id rfl
@[simp] theorem min2W_int (S : Store) (i j : Int) : min2W [.val (.int i), .val (.int j)] S = .ok (.val (.int (if j < i then j else i))) S := id rfl
@[simp] theorem intsOf_map (f : α → Int) : ∀ xs : List α, intsOf (xs.map fun x => .int (f x)) = some (xs.map f)
  | [] => rfl
  | x :: xs => by simp [intsOf, intsOf_map f xs]
@[simp] theorem intsOf_ints (xs : List Int) : intsOf (xs.map .int) = some xs := by have := intsOf_map id xs; simpa using this
@[simp] theorem boolsOf_map (f : α → Bool) : ∀ xs : List α, boolsOf (xs.map fun x => .bl (f x)) = some (xs.map f)
  | [] => rfl
  | x :: xs => by simp [boolsOf, boolsOf_map f xs]
@[simp] theorem intsOf_nil : intsOf [] = some [] := id rfl
@[simp] theorem intsOf_cons (i : Int) (ps : List P) : intsOf (.int i :: ps) = (intsOf ps).map (i :: ·) := id rfl
@[simp] theorem boolsOf_nil : boolsOf [] = some [] := id rfl
@[simp] theorem boolsOf_cons (i : Bool) (ps : List P) : boolsOf (.bl i :: ps) = (boolsOf ps).map (i :: ·) := id rfl
@[simp] theorem rngP_len (lo : Int) (n : Nat) : (rngP lo n).length = n := by simp [rngP]
theorem rngP_eq (n : Nat) : rngP 0 n = (List.range n).map fun (k : Nat) => P.int (0 + (k : Int)) := id rfl
@[simp] theorem sumW_lst (ps : List P) (S : Store) : sumW [.val (.lst ps)] S = orBad ((intsOf ps).map fun ns => .val (.int ns.sum)) S := id rfl
@[simp] theorem allW_lst (ev : Bool) (ps : List P) (S : Store) : allW ev [.val (.lst ps)] S = orBad ((boolsOf ps).map fun bs => .val (.bl (if ev = true then bs.all id else bs.any id))) S := id rfl
theorem atI_in {xs : List α} {i : Int} (h0 : 0 ≤ i) (h1 : i < xs.length) : atI xs i = xs[i.toNat]? := by
  obtain ⟨j, rfl⟩ := Int.eq_ofNat_of_zero_le h0
  have h : j < xs.length := by omega
  rw [List.getElem?_eq_getElem h |> atI_nat]
  simp [h]
@[simp] theorem atI_map (f : α → β) (xs : List α) (i : Int) : atI (xs.map f) i = (atI xs i).map f := by
  unfold atI
  rw [List.length_map]
  cases ixN xs.length i <;> simp
@[simp] theorem ixW_tup (ps : List P) (i : Int) (S : Store) : ixW (.val (.tup ps)) (.val (.int i)) S = orBad ((atI ps i).map .val) S := id rfl
@[simp] theorem ixW_lst (ps : List P) (i : Int) (S : Store) : ixW (.val (.lst ps)) (.val (.int i)) S = orBad ((atI ps i).map .val) S := by simp [ixW]
@[simp] theorem ixW_scr (ps : List Int) (i : Int) (S : Store) : ixW (.val (.scr ps)) (.val (.int i)) S = orBad ((atI ps i).map fun n => .val (.int n)) S := by simp [ixW]
theorem ixW_loc (n : Nat) (i : Int) (S : Store) : ixW (.loc n) (.val (.int i)) S = match seqW S (.loc n) with
  | some ws => orBad (atI ws i) S
  | none => .bad := rfl
theorem atI_nn (xs : List α) (n : Nat) : atI xs (n : Int) = xs[n]? := by
  by_cases h : n < xs.length
  · rw [atI_in (by omega) (by omega)]; simp
  · have : ¬ (n : Int) < xs.length := by omega
    simp [atI, ixN, this]
    omega
@[simp] theorem atI_cons_lit (x : α) (xs : List α) (n : Nat) : atI (x :: xs) (no_index (OfNat.ofNat n)) = (x :: xs)[n]? := atI_nn _ n
@[simp] theorem atI_last1 (x : α) : atI [x] (-1) = some x := id rfl
@[simp] theorem atI_snoc (xs : List α) (x : α) : atI (xs ++ [x]) (-1) = some x := atI_last _ _
/-- the item of a list of numbers, 0 outside -/
def gi (xs : List Int) (i : Int) : Int := xs.getD i.toNat 0
theorem atI_gi {xs : List Int} {i : Int} (h0 : 0 ≤ i) (h1 : i < xs.length) : atI xs i = some (gi xs i) := by
  rw [atI_in h0 h1]
  have : i.toNat < xs.length := by omega
  simp [gi, List.getD, this]
theorem gi_mem {xs : List Int} {i : Int} (h0 : 0 ≤ i) (h1 : i < xs.length) : gi xs i ∈ xs := by
  have : i.toNat < xs.length := by omega
  simp [gi, List.getD, this]
/-! loops -/
@[simp] theorem iSeq_ap (f : FE W) (ρ : Env) (S : Store) : iSeq f ρ S = (f ρ S).bind itemsW := id rfl
@[simp] theorem itemsW_lst (ps : List P) (S : Store) : itemsW (.val (.lst ps)) S = .ok ps S := id rfl
@[simp] theorem itemsW_tup (ps : List P) (S : Store) : itemsW (.val (.tup ps)) S = .ok ps S := id rfl
@[simp] theorem itemsW_scr (ps : List Int) (S : Store) : itemsW (.val (.scr ps)) S = .ok (ps.map .int) S := id rfl
def rngR1 (ws : List W) (S1 : Store) : RE (List P) := match ws with
  | [.val (.int j)] => if rngOk 0 j = true then .ok (rngP 0 j.toNat) S1 else .bad
  | _ => .bad
@[simp] theorem iRange1_ap (fa : FE (List W)) (ρ : Env) (S : Store) : iRange1 fa ρ S = (fa ρ S).bind rngR1 := id rfl
@[simp] theorem rngR1_int (j : Int) (S : Store) : rngR1 [.val (.int j)] S = if rngOk 0 j = true then .ok (rngP 0 j.toNat) S else .bad := id rfl
def rngR2 (ws : List W) (S1 : Store) : RE (List P) := match ws with
  | [.val (.int i), .val (.int j)] => if rngOk i j = true then .ok (rngP i (j - i).toNat) S1 else .bad
  | _ => .bad
@[simp] theorem iRange2_ap (fa : FE (List W)) (ρ : Env) (S : Store) : iRange2 fa ρ S = (fa ρ S).bind rngR2 := id rfl
@[simp] theorem rngR2_int (i j : Int) (S : Store) : rngR2 [.val (.int i), .val (.int j)] S = if rngOk i j = true then .ok (rngP i (j - i).toNat) S else .bad := id rfl
theorem rngOk_of {i j : Int} (h1 : -4611686018427387904 ≤ i) (h2 : i < 4611686018427387904) (h3 : -4611686018427387904 ≤ j) (h4 : j < 4611686018427387904) : rngOk i j = true := by
  unfold rngOk
  simp only [Bool.and_eq_true, decide_eq_true_eq]
  exact ⟨⟨⟨h1, h2⟩, h3⟩, h4⟩
def zipR (ps : List P) (S2 : Store) : RE (List P) := match ps with
  | [.lst xs, .lst ys] => .ok ((xs.zip ys).map fun q => .tup [q.1, q.2]) S2
  | _ => .bad
@[simp] theorem iZip_ap (fa : FE (List W)) (ρ : Env) (S : Store) : iZip fa ρ S = (fa ρ S).bind fun ws S1 => (doFrzs ws S1).bind zipR := id rfl
@[simp] theorem zipR_lst (xs ys : List P) (S : Store) : zipR [.lst xs, .lst ys] S = .ok ((xs.zip ys).map fun q => .tup [q.1, q.2]) S := id rfl
def enumR (ps : List P) (S2 : Store) : RE (List P) := match ps with
  | [.lst xs] => .ok (((List.range xs.length).zip xs).map fun q => .tup [.int (q.1 : Int), q.2]) S2
  | _ => .bad
@[simp] theorem iEnum_ap (fa : FE (List W)) (ρ : Env) (S : Store) : iEnum fa ρ S = (fa ρ S).bind fun ws S1 => (doFrzs ws S1).bind enumR := id rfl
@[simp] theorem enumR_lst (xs : List P) (S : Store) : enumR [.lst xs] S = .ok (((List.range xs.length).zip xs).map fun q => .tup [.int (q.1 : Int), q.2]) S := id rfl
@[simp] theorem forGo_nil (t : Tg) (body : FS) (ρ : Env) (S : Store) : forGo t body [] ρ S = .nx ρ S := id rfl
/-- one round -/
def R.round (r : R) (k : Env → Store → R) : R := match r with
  | .nx ρ S => k ρ S
  | .ct ρ S => k ρ S
  | .bk ρ S => .nx ρ S
  | r => r
@[simp] theorem rd_nx (ρ : Env) (S : Store) (g : FS) : (R.nx ρ S).round g = g ρ S := id rfl
@[simp] theorem rd_rt (w : W) (S : Store) (g : FS) : (R.rt w S).round g = .rt w S := id rfl
@[simp] theorem rd_bk (ρ : Env) (S : Store) (g : FS) : (R.bk ρ S).round g = .nx ρ S := id rfl
@[simp] theorem rd_ct (ρ : Env) (S : Store) (g : FS) : (R.ct ρ S).round g = g ρ S := id rfl
@[simp] theorem rd_ex (x : Xn) (ρ : Env) (S : Store) (g : FS) : (R.ex x ρ S).round g = .ex x ρ S := id rfl
@[simp] theorem rd_bad (g : FS) : R.bad.round g = .bad := id rfl
@[simp] theorem rd_ite (c : Prop) [Decidable c] (a b : R) (g : FS) : (if c then a else b).round g = if c then a.round g else b.round g := by split <;> rfl
theorem forGo_cons (t : Tg) (body : FS) (p : P) (ps : List P) (ρ : Env) (S : Store) : forGo t body (p :: ps) ρ S = ((bindR (bindT t p ρ) S).seq body).round (forGo t body ps) := by
  rw [forGo]
  cases h : bindT t p ρ with
  | none => rfl
  | some ρ1 => simp only [bindR_some, rs_nx]; cases h2 : body ρ1 S <;> rfl
/-- a loop that goes on to its end, with an invariant over what is left -/
theorem forGo_inv (E : σ → Env) (T : σ → Store) (enc : α → P) (I : List α → σ → Prop) {t : Tg} {body : FS} (step : ∀ a r s, I (a :: r) s → ∃ s', (bindR (bindT t (enc a) (E s)) (T s)).seq body = .nx (E s') (T s') ∧ I r s') :
    ∀ xs s, I xs s → ∃ s', forGo t body (xs.map enc) (E s) (T s) = .nx (E s') (T s') ∧ I [] s'
  | [], s, h => ⟨s, rfl, h⟩
  | a :: r, s, h => by
    obtain ⟨s1, e1, h1⟩ := step a r s h
    obtain ⟨s2, e2, h2⟩ := forGo_inv E T enc I step r s1 h1
    exact ⟨s2, by rw [List.map_cons, forGo_cons, e1, rd_nx, e2], h2⟩
/-- a loop over a range -/
theorem forGo_rng (E : σ → Env) (T : σ → Store) (J : Nat → σ → Prop) {t : Tg} {body : FS} {lo : Int} {n : Nat} (step : ∀ k s, k < n → J k s → ∃ s', (bindR (bindT t (.int (lo + (k : Int))) (E s)) (T s)).seq body = .nx (E s') (T s') ∧ J (k + 1) s') {s : σ} (h : J 0 s) :
    ∃ s', forGo t body (rngP lo n) (E s) (T s) = .nx (E s') (T s') ∧ J n s' := by
  have key : ∀ (m k : Nat), k + m = n → ∀ s, J k s → ∃ s', forGo t body ((List.range' k m).map fun (k : Nat) => P.int (lo + (k : Int))) (E s) (T s) = .nx (E s') (T s') ∧ J n s' := by
    intro m
    induction m with
    | zero => intro k hk s h; simp at hk; subst hk; exact ⟨s, rfl, h⟩
    | succ m ih =>
      intro k hk s h
      obtain ⟨s1, e1, h1⟩ := step k s (by omega) h
      obtain ⟨s2, e2, h2⟩ := ih (k + 1) (by omega) s1 h1
      refine ⟨s2, ?_, h2⟩
      rw [List.range'_succ, List.map_cons, forGo_cons, e1, rd_nx]
      exact e2
  unfold rngP
  rw [List.range_eq_range']
  exact key n 0 (by omega) s h
/-- a plain fold -/
theorem forGo_fold (E : σ → Env) (T : σ → Store) (enc : α → P) (f : σ → α → σ) {t : Tg} {body : FS} {xs : List α} (step : ∀ a s, a ∈ xs → (bindR (bindT t (enc a) (E s)) (T s)).seq body = .nx (E (f s a)) (T (f s a))) (s : σ) :
    forGo t body (xs.map enc) (E s) (T s) = .nx (E (xs.foldl f s)) (T (xs.foldl f s)) := by
  induction xs generalizing s with
  | nil => rfl
  | cons a r ih =>
    rw [List.map_cons, forGo_cons, step a s List.mem_cons_self, rd_nx, List.foldl_cons]
    exact ih (fun a s h => step a s (List.mem_cons_of_mem _ h)) _
/-! comprehensions -/
@[simp] theorem eLc_ap (fi : FI) (vs : List Nat) (t : Tg) (c : FE Bool) (e : FE W) (ρ : Env) (S : Store) : eLc fi vs t c e ρ S = (fi ρ S).bind fun ps S1 => if ps.length ≤ 100000 then (lcGo vs t c e ρ ps S1).bind fun qs S2 => .ok (.val (.lst qs)) S2 else .bad := id rfl
@[simp] theorem lcGo_nil (vs : List Nat) (t : Tg) (c : FE Bool) (e : FE W) (ρ : Env) (S : Store) : lcGo vs t c e ρ [] S = .ok [] S := id rfl
theorem lcGo_map {vs : List Nat} {t : Tg} {e : FE W} {ρ : Env} {S : Store} (enc : α → P) (g : α → P) {xs : List α} (h : ∀ a ∈ xs, ∃ ρ1, bindT t (enc a) (wipeE ρ vs) = some ρ1 ∧ e ρ1 S = .ok (.val (g a)) S) :
    lcGo vs t cYes e ρ (xs.map enc) S = .ok (xs.map g) S := by
  induction xs with
  | nil => rfl
  | cons a r ih =>
    obtain ⟨ρ1, h1, h2⟩ := h a List.mem_cons_self
    rw [List.map_cons, lcGo, h1]
    simp only [cYes_ap, noEx, rb_ok, if_true, h2, doFrz_val, ih fun a h' => h a (List.mem_cons_of_mem _ h')]
    rfl
theorem lcGo_rng {vs : List Nat} {t : Tg} {e : FE W} {ρ : Env} {S : Store} {n : Nat} (g : Nat → P) (h : ∀ k : Nat, k < n → ∃ ρ1, bindT t (.int (0 + (k : Int))) (wipeE ρ vs) = some ρ1 ∧ e ρ1 S = .ok (.val (g k)) S) :
    lcGo vs t cYes e ρ (rngP 0 n) S = .ok ((List.range n).map g) S := lcGo_map _ g fun k hk => h k (List.mem_range.mp hk)
theorem lc_id (f : α → P) {i : Nat} {ρ : Env} {S : Store} {xs : List α} (h : i < ρ.length) : lcGo [i] (.nm i) cYes (eVar i) ρ (xs.map f) S = .ok (xs.map f) S := by
  refine lcGo_map f f fun a _ => ⟨_, bindT_nm _ _ _, ?_⟩
  show eVar i ((List.set ρ i none).set i (some (.val (f a)))) S = _
  simp [eVar, h]
theorem lcGo_filter {vs : List Nat} {t : Tg} {c : FE Bool} {e : FE W} {ρ : Env} {S : Store} (enc : α → P) (b : α → Bool) (g : α → P) {xs : List α} (h : ∀ a ∈ xs, ∃ ρ1, bindT t (enc a) (wipeE ρ vs) = some ρ1 ∧ c ρ1 S = .ok (b a) S ∧ (b a = true → e ρ1 S = .ok (.val (g a)) S)) :
    lcGo vs t c e ρ (xs.map enc) S = .ok ((xs.filter b).map g) S := by
  induction xs with
  | nil => rfl
  | cons a r ih =>
    obtain ⟨ρ1, h1, h2, h3⟩ := h a List.mem_cons_self
    have ih := ih fun a h' => h a (List.mem_cons_of_mem _ h')
    rw [List.map_cons, lcGo, h1]
    simp only [h2, noEx, rb_ok]
    cases hb : b a with
    | false => simp only [Bool.false_eq_true, if_false, ih, List.filter_cons, hb]
    | true => simp only [if_true, h3 hb, noEx, rb_ok, doFrz_val, ih, List.filter_cons, hb, List.map_cons]
@[simp] theorem wipe_nil (ρ : Env) : wipeE ρ [] = ρ := id rfl
@[simp] theorem wipe_cons (ρ : Env) (v : Nat) (vs : List Nat) : wipeE ρ (v :: vs) = (wipeE ρ vs).set v none := id rfl
/-! a def's end -/
def R.fin (r : R) : Rp := match r with
  | .rt w S => match frz S w with
    | some (p, _) => .ok p
    | none => .bad
  | .nx _ _ => .ok .non
  | .ex x _ _ => .ex x
  | _ => .bad
theorem runP_ap (m : Nat) (body : FS) (ds : List P) : runP m body ds = (body (envOf ds m) []).fin := id rfl
@[simp] theorem fin_val (p : P) (S : Store) : (R.rt (.val p) S).fin = .ok p := id rfl
theorem fin_lst {S : Store} {n : Nat} {ws : List W} {ps : List P} (h : S[n]? = some (.lst ws)) (hv : valAll ws = some ps) : (R.rt (.loc n) S).fin = .ok (.lst ps) := by
  simp [R.fin, frz, frz1, h, hv]
theorem fin_frz {S : Store} {n : Nat} {p : P} (h : S[n]? = some (.frz p)) : (R.rt (.loc n) S).fin = .ok p := by
  simp [R.fin, frz, frz1, h]
@[simp] theorem fin_nx (ρ : Env) (S : Store) : (R.nx ρ S).fin = .ok .non := id rfl
@[simp] theorem fin_ex (x : Xn) (ρ : Env) (S : Store) : (R.ex x ρ S).fin = .ex x := id rfl
@[simp] theorem fin_bad : R.bad.fin = .bad := id rfl
@[simp] theorem fin_ite (c : Prop) [Decidable c] (a b : R) : (if c then a else b).fin = if c then a.fin else b.fin := by split <;> rfl
theorem envOf_ap (ds : List P) (m : Nat) : envOf ds m = (ds.map fun p => some (W.val p)) ++ List.replicate (m - ds.length) none := id rfl
/-! methods of lists -/
@[simp] theorem eBM_ap (T : String) (op : W → List W → Store → RE W) (fo : FE W) (fa : FE (List W)) (ρ : Env) (S : Store) : eBM T op fo fa ρ S = (fo ρ S).bind fun w S1 => if isTy T S1 w = true then (fa ρ S1).bind fun ws S2 => op w ws S2 else .bad := id rfl
@[simp] theorem eBM0_ap (T : String) (op : W → List W → Store → RE W) (fo : FE W) (ρ : Env) (S : Store) : eBM0 T op fo ρ S = (fo ρ S).bind fun w S1 => if isTy T S1 w = true then op w [] S1 else .bad := id rfl
@[simp] theorem isTy_loc (S : Store) (n : Nat) : isTy "list" S (.loc n) = (seqW S (.loc n)).isSome := by simp [isTy]
theorem appendW_loc {S : Store} {n : Nat} {xs : List W} {w : W} (h : S[n]? = some (.lst xs)) (hl : xs.length < 100000) : appendW (.loc n) [w] S = .ok (.val .non) (S.set n (.lst (xs ++ [w]))) := by
  simp [appendW, liveL, h, hl]
theorem insertW_loc {S : Store} {n : Nat} {xs : List W} {w : W} {i : Int} (h : S[n]? = some (.lst xs)) (hl : xs.length < 100000) (h0 : 0 ≤ i) (h1 : i < 4611686018427387904) : insertW (.loc n) [.val (.int i), w] S = .ok (.val .non) (S.set n (.lst (xs.take i.toNat ++ [w] ++ xs.drop i.toNat))) := by
  simp [insertW, liveL, h, hl, h0, h1]
/-! fields -/
@[simp] theorem eFld_ap (c f : Str) (fa : FE W) (ρ : Env) (S : Store) : eFld c f fa ρ S = (fa ρ S).bind fun w S1 => orBad (fldOf c f S1 w) S1 := id rfl
@[simp] theorem fldOf_obj (c f c' : Str) (S : Store) (ns : List Str) (ps : List P) : fldOf c f S (.val (.obj c' ns ps)) = if c' = c then (lookA f ns ps).map .val else none := id rfl
theorem fldOf_ins {S : Store} {n : Nat} {c f c' : Str} {ns : List Str} {ws : List W} (h : S[n]? = some (.ins c' ns ws)) : fldOf c f S (.loc n) = if c' = c then lookA f ns ws else none := by simp [fldOf, h]
/-! isinstance -/
@[simp] theorem isiW_val (T : String) (p : P) (S : Store) : isiW T (.val p) S = orBad ((tyN p).map fun t => .val (.bl (isi t T))) S := id rfl
@[simp] theorem tyN_non : tyN .non = some "NoneType" := id rfl
@[simp] theorem tyN_bl (b : Bool) : tyN (.bl b) = some "bool" := id rfl
@[simp] theorem tyN_int (b : Int) : tyN (.int b) = some "int" := id rfl
@[simp] theorem tyN_str (b : Str) : tyN (.str b) = some "str" := id rfl
@[simp] theorem tyN_tup (b : List P) : tyN (.tup b) = some "tuple" := id rfl
@[simp] theorem tyN_lst (b : List P) : tyN (.lst b) = some "list" := id rfl
/-! try -/
def R.tryR (M : Str → Str → Option Bool) (hs : List (Str × FS)) (r : R) : R := match r with
  | .ex x ρ' S' => tryGo M hs x ρ' S'
  | r => r
@[simp] theorem tryR_nx (M : Str → Str → Option Bool) (hs : List (Str × FS)) (ρ : Env) (S : Store) : (R.nx ρ S).tryR M hs = .nx ρ S := id rfl
@[simp] theorem tryR_rt (M : Str → Str → Option Bool) (hs : List (Str × FS)) (w : W) (S : Store) : (R.rt w S).tryR M hs = .rt w S := id rfl
@[simp] theorem tryR_ex (M : Str → Str → Option Bool) (hs : List (Str × FS)) (x : Xn) (ρ : Env) (S : Store) : (R.ex x ρ S).tryR M hs = tryGo M hs x ρ S := id rfl
@[simp] theorem tryR_bad (M : Str → Str → Option Bool) (hs : List (Str × FS)) : R.bad.tryR M hs = .bad := id rfl
@[simp] theorem tryR_ite (M : Str → Str → Option Bool) (hs : List (Str × FS)) (c : Prop) [Decidable c] (a b : R) : (if c then a else b).tryR M hs = if c then a.tryR M hs else b.tryR M hs := by split <;> rfl
def R.noEx (r : R) : R := match r with
  | .ex _ _ _ => .bad
  | r => r
@[simp] theorem nx_noEx (ρ : Env) (S : Store) : (R.nx ρ S).noEx = .nx ρ S := id rfl
@[simp] theorem rt_noEx (ρ : W) (S : Store) : (R.rt ρ S).noEx = .rt ρ S := id rfl
theorem tryGo_no (M : Str → Str → Option Bool) (c : Str) (f : FS) (hs : List (Str × FS)) (x : Xn) (ρ : Env) (S : Store) (h : M x.cls c = some false) : tryGo M ((c, f) :: hs) x ρ S = tryGo M hs x ρ S := by rw [tryGo, h]
theorem tryGo_yes (M : Str → Str → Option Bool) (c : Str) (f : FS) (hs : List (Str × FS)) (x : Xn) (ρ : Env) (S : Store) (h : M x.cls c = some true) : tryGo M ((c, f) :: hs) x ρ S = (f ρ S).noEx := by
  rw [tryGo, h]
  cases hf : f ρ S <;> simp [R.noEx, hf]
@[simp] theorem tryGo_nil (M : Str → Str → Option Bool) (x : Xn) (ρ : Env) (S : Store) : tryGo M [] x ρ S = .ex x ρ S := id rfl
@[simp] theorem sTry_ap (M : Str → Str → Option Bool) (body : FS) (hs : List (Str × FS)) (ρ : Env) (S : Store) : sTry M body hs ρ S = (body ρ S).tryR M hs := id rfl
@[simp] theorem get_z (c : α) (l : List α) : (c :: l)[0]? = some c := id rfl
@[simp] theorem get_s (c : α) (l : List α) (n : Nat) : (c :: l)[n + 1]? = l[n]? := id rfl
/-! cells -/
def itemsC (S : Store) (n : Nat) (o : Option Cell) : RE (List P) := match o with
  | some (.lst ws) => match valAll ws with
    | some ps => .ok ps (S.set n (.frz (.lst ps)))
    | none => .bad
  | some (.frz (.lst ps)) => .ok ps S
  | _ => .bad

def seqC : Option Cell → Option (List W)
  | some (.lst ws) => some ws
  | some (.frz (.lst ps)) => some (ps.map .val)
  | _ => none
@[simp] theorem seqW_locC (S : Store) (n : Nat) : seqW S (.loc n) = seqC S[n]? := by
  unfold seqW seqC
  rfl
@[simp] theorem seqC_lst (ws : List W) : seqC (some (.lst ws)) = some ws := id rfl
@[simp] theorem seqC_frz (ps : List P) : seqC (some (.frz (.lst ps))) = some (ps.map .val) := id rfl
def liveC (o : Option Cell) (k : List W → RE W) : RE W := match o with
  | some (.lst ws) => k ws
  | _ => .bad
@[simp] theorem liveC_lst (ws : List W) (k : List W → RE W) : liveC (some (.lst ws)) k = k ws := id rfl
@[simp] theorem appendW_ap (S : Store) (n : Nat) (w : W) : appendW (.loc n) [w] S = liveC S[n]? fun xs => if xs.length < 100000 then .ok (.val .non) (S.set n (.lst (xs ++ [w]))) else .bad := by
  unfold appendW liveL
  cases h : S[n]? with
  | none => simp [h, liveC]
  | some c => cases c <;> simp [h, liveC]
@[simp] theorem insertW_ap (S : Store) (n : Nat) (i : Int) (w : W) : insertW (.loc n) [.val (.int i), w] S = liveC S[n]? fun xs => if xs.length < 100000 ∧ 0 ≤ i ∧ i < 4611686018427387904 then .ok (.val .non) (S.set n (.lst (xs.take i.toNat ++ [w] ++ xs.drop i.toNat))) else .bad := by
  unfold insertW liveL
  cases h : S[n]? with
  | none => simp [h, liveC]
  | some c => cases c <;> simp [h, liveC]
def optR (o : Option α) (k : α → RE β) : RE β := match o with
  | some a => k a
  | none => .bad
@[simp] theorem optR_some (a : α) (k : α → RE β) : optR (some a) k = k a := id rfl
@[simp] theorem optR_none (k : α → RE β) : optR none k = .bad := id rfl
def frzC (S : Store) (n : Nat) (o : Option Cell) : RE P := match o with
  | some (.lst ws) => optR (valAll ws) fun ps => .ok (.lst ps) (S.set n (.frz (.lst ps)))
  | some (.frz p) => .ok p S
  | some (.ins c ns ws) => optR (frzs1 S ws) fun r => optR (r.2[n]?) fun _ => .ok (.obj c ns r.1) (r.2.set n (.frz (.obj c ns r.1)))
  | none => .bad
theorem frzs1_cells {S S' : Store} : ∀ {ws : List W} {ps : List P}, frzs1 S ws = some (ps, S') → ∀ (n : Nat) (c : Str) (ns : List Str) (us : List W), S[n]? = some (.ins c ns us) → S'[n]? = some (.ins c ns us)
  | [], ps, e, n, c, ns, us, h => by cases e; exact h
  | w :: ws, ps, e, n, c, ns, us, h => by
    unfold frzs1 at e
    simp only [Option.bind_eq_some_iff, Option.map_eq_some_iff] at e
    obtain ⟨⟨p, S1⟩, e1, ⟨qs, S2⟩, e2, e3⟩ := e
    cases e3
    have h1 : S1[n]? = some (.ins c ns us) := by
      unfold frz1 at e1
      split at e1
      · cases e1; exact h
      · rename_i m
        split at e1
        · rename_i ws' hm
          simp only [Option.map_eq_some_iff] at e1
          obtain ⟨ps', _, e1⟩ := e1
          cases e1
          rw [List.getElem?_set_ne]
          · exact h
          · rintro rfl
            rw [h] at hm; cases hm
        · cases e1; exact h
        · cases e1
    exact frzs1_cells e2 n c ns us h1
@[simp] theorem doFrz_loc (S : Store) (n : Nat) : doFrz (.loc n) S = frzC S n S[n]? := by
  unfold doFrz
  cases h : S[n]? with
  | none => simp [frz, frz1, h, frzC]
  | some c =>
    cases c with
    | lst ws => cases hv : valAll ws <;> simp [frz, frz1, h, frzC, hv]
    | frz p => simp [frz, frz1, h, frzC]
    | ins c ns ws =>
      cases hf : frzs1 S ws with
      | none => simp [frz, h, frzC, hf]
      | some r =>
        obtain ⟨ps, S'⟩ := r
        have h2 := frzs1_cells hf n c ns ws h
        simp [frz, h, frzC, hf, h2]
@[simp] theorem frzC_lst (S : Store) (n : Nat) (ws : List W) : frzC S n (some (.lst ws)) = optR (valAll ws) fun ps => .ok (.lst ps) (S.set n (.frz (.lst ps))) := id rfl
@[simp] theorem frzC_frz (S : Store) (n : Nat) (p : P) : frzC S n (some (.frz p)) = .ok p S := id rfl
@[simp] theorem frzC_ins (S : Store) (n : Nat) (c : Str) (ns : List Str) (ws : List W) : frzC S n (some (.ins c ns ws)) = optR (frzs1 S ws) fun r => optR (r.2[n]?) fun _ => .ok (.obj c ns r.1) (r.2.set n (.frz (.obj c ns r.1))) := id rfl
def addO (a b : Option P) (S : Store) : RE W := match a, b with
  | some (.int i), some (.int j) => .ok (.val (.int (i + j))) S
  | some (.str x), some (.str y) => if x.length + y.length ≤ 1000000 then .ok (.val (.str (x ++ y))) S else .bad
  | some (.tup ps), some (.tup qs) => if ps.length + qs.length ≤ 100000 then .ok (.val (.tup (ps ++ qs))) S else .bad
  | some (.lst ps), some (.lst qs) => if ps.length + qs.length ≤ 100000 then .ok (.val (.lst (ps ++ qs))) S else .bad
  | _, _ => .bad
@[simp] theorem addO_lst (i j : List P) (S : Store) : addO (some (.lst i)) (some (.lst j)) S = if i.length + j.length ≤ 100000 then .ok (.val (.lst (i ++ j))) S else .bad := id rfl
@[simp] theorem addW_loc_l (n : Nat) (b : W) (S : Store) : addW (.loc n) b S = addO (pOf S (.loc n)) (pOf S b) S := id rfl
@[simp] theorem addW_loc_r (n : Nat) (a : P) (S : Store) : addW (.val a) (.loc n) S = addO (some a) (pOf S (.loc n)) S := id rfl
@[simp] theorem eqW_loc_l (neg : Bool) (n : Nat) (b : W) (S : Store) : eqW neg (.loc n) b S = match pOf S (.loc n), pOf S b with
  | some p, some q => eqR neg (eqP p q) S
  | _, _ => .bad := id rfl
@[simp] theorem eqW_loc_r (neg : Bool) (n : Nat) (a : P) (S : Store) : eqW neg (.val a) (.loc n) S = match pOf S (.loc n) with
  | some q => eqR neg (eqP a q) S
  | _ => .bad := by
  unfold eqW
  cases h : pOf S (.loc n) with
  | none => rfl
  | some q => rfl
@[simp] theorem frzs1_nil (S : Store) : frzs1 S [] = some ([], S) := id rfl
@[simp] theorem frzs1_val (S : Store) (p : P) (ws : List W) : frzs1 S (.val p :: ws) = (frzs1 S ws).map fun q => (p :: q.1, q.2) := id rfl
def frz1C (S : Store) (n : Nat) (o : Option Cell) : Option (P × Store) := match o with
  | some (.lst ws) => (valAll ws).map fun ps => (.lst ps, S.set n (.frz (.lst ps)))
  | some (.frz p) => some (p, S)
  | _ => none
@[simp] theorem frz1C_lst (S : Store) (n : Nat) (ws : List W) : frz1C S n (some (.lst ws)) = (valAll ws).map fun ps => (.lst ps, S.set n (.frz (.lst ps))) := id rfl
@[simp] theorem frz1C_frz (S : Store) (n : Nat) (p : P) : frz1C S n (some (.frz p)) = some (p, S) := id rfl
@[simp] theorem frzs1_loc (S : Store) (n : Nat) (ws : List W) : frzs1 S (.loc n :: ws) = (frz1C S n S[n]?).bind fun r => (frzs1 r.2 ws).map fun q => (r.1 :: q.1, q.2) := id rfl
@[simp] theorem doFrzs_val (p : P) (ws : List W) (S : Store) : doFrzs (.val p :: ws) S = (doFrzs ws S).bind fun ps S2 => .ok (p :: ps) S2 := by rw [doFrzs_cons, doFrz_val, rb_ok]
@[simp] theorem doFrzs_loc (n : Nat) (ws : List W) (S : Store) : doFrzs (.loc n :: ws) S = (frzC S n S[n]?).bind fun p S1 => (doFrzs ws S1).bind fun ps S2 => .ok (p :: ps) S2 := by rw [doFrzs_cons, doFrz_loc]
def RE.finP (r : RE P) : Rp := match r with
  | .ok p _ => .ok p
  | _ => .bad
@[simp] theorem finP_ok (p : P) (S : Store) : (RE.ok p S).finP = .ok p := id rfl
theorem frz_doFrz (w : W) (S : Store) : (match frz S w with
    | some (p, _) => Rp.ok p
    | none => .bad) = (doFrz w S).finP := by
  unfold doFrz
  cases frz S w with
  | none => rfl
  | some r => rfl
@[simp] theorem fin_loc (n : Nat) (S : Store) : (R.rt (.loc n) S).fin = (frzC S n S[n]?).finP := by
  rw [← doFrz_loc]
  exact frz_doFrz _ _
def R.finI (r : R) : Rp := match r with
  | .nx _ S => (doFrz (.loc 0) S).finP
  | .rt (.val .non) S => (doFrz (.loc 0) S).finP
  | .ex x _ _ => .ex x
  | _ => .bad
theorem runI_ap (c : Str) (m : Nat) (body : FS) (ds : List P) : runI c m body ds = (body (some (.loc 0) :: envOf ds (m - 1)) [.ins c [] []]).finI := by
  unfold runI R.finI
  generalize body (some (.loc 0) :: envOf ds (m - 1)) [.ins c [] []] = r
  cases r with
  | nx ρ S => exact frz_doFrz _ _
  | rt w S =>
    cases w with
    | loc n => rfl
    | val p => cases p <;> first | rfl | exact frz_doFrz _ _
  | _ => rfl
@[simp] theorem finI_nx (ρ : Env) (S : Store) : (R.nx ρ S).finI = (frzC S 0 S[0]?).finP := by rw [← doFrz_loc]; rfl
@[simp] theorem finI_non (S : Store) : (R.rt (.val .non) S).finI = (frzC S 0 S[0]?).finP := by rw [← doFrz_loc]; rfl
@[simp] theorem finI_ex (x : Xn) (ρ : Env) (S : Store) : (R.ex x ρ S).finI = .ex x := id rfl
@[simp] theorem finI_ite (c : Prop) [Decidable c] (a b : R) : (if c then a else b).finI = if c then a.finI else b.finI := by split <;> rfl
def pOfC : Option Cell → Option P
  | some (.lst ws) => (valAll ws).map .lst
  | some (.frz p) => some p
  | _ => none
@[simp] theorem pOf_val (S : Store) (p : P) : pOf S (.val p) = some p := id rfl
@[simp] theorem pOf_loc (S : Store) (n : Nat) : pOf S (.loc n) = pOfC S[n]? := by unfold pOf pOfC; rfl
@[simp] theorem pOfC_lst (ws : List W) : pOfC (some (.lst ws)) = (valAll ws).map .lst := id rfl
@[simp] theorem pOfC_frz (p : P) : pOfC (some (.frz p)) = some p := id rfl
def fldC (c f : Str) : Option Cell → Option W
  | some (.ins c' ns ws) => if c' = c then lookA f ns ws else none
  | some (.frz (.obj c' ns ps)) => if c' = c then (lookA f ns ps).map .val else none
  | _ => none
@[simp] theorem fldOf_loc (c f : Str) (S : Store) (n : Nat) : fldOf c f S (.loc n) = fldC c f S[n]? := by unfold fldOf fldC; rfl
@[simp] theorem fldC_ins (c f c' : Str) (ns : List Str) (ws : List W) : fldC c f (some (.ins c' ns ws)) = if c' = c then lookA f ns ws else none := id rfl
@[simp] theorem fldC_frz (c f c' : Str) (ns : List Str) (ws : List P) : fldC c f (some (.frz (.obj c' ns ws))) = if c' = c then (lookA f ns ws).map .val else none := id rfl
@[simp] theorem lookA_cons (f g : Str) (x : α) (ns : List Str) (xs : List α) : lookA f (g :: ns) (x :: xs) = if f = g then some x else lookA f ns xs := by
  unfold lookA
  rw [List.zip_cons_cons, List.lookup_cons]
  by_cases h : f = g
  · simp [h]
  · have : (f == g) = false := by simpa using h
    simp [h, this]
@[simp] theorem putN_nil (f : Str) : putN f [] = [f] := id rfl
@[simp] theorem putN_cons (f g : Str) (r : List Str) : putN f (g :: r) = if g = f then g :: r else g :: putN f r := id rfl
@[simp] theorem putA_nil (f : Str) (x : α) (xs : List α) : putA f x [] xs = [x] := id rfl
@[simp] theorem putA_cons (f g : Str) (x y : α) (r : List Str) (ys : List α) : putA f x (g :: r) (y :: ys) = if g = f then x :: ys else y :: putA f x r ys := id rfl
def insC (c : Str) (o : Option Cell) (k : List Str → List W → R) : R := match o with
  | some (.ins c' ns ws) => if c' = c ∧ ns.length < 1000 then k ns ws else .bad
  | _ => .bad
@[simp] theorem insC_ins (c c' : Str) (ns : List Str) (ws : List W) (k : List Str → List W → R) : insC c (some (.ins c' ns ws)) k = if c' = c ∧ ns.length < 1000 then k ns ws else .bad := id rfl
def locR (w : W) (k : Nat → R) : R := match w with
  | .loc n => k n
  | _ => .bad
@[simp] theorem locR_loc (n : Nat) (k : Nat → R) : locR (.loc n) k = k n := id rfl
@[simp] theorem sFldS_ap (c f : Str) (fo fv : FE W) (ρ : Env) (S : Store) : sFldS c f fo fv ρ S = (fv ρ S).toR ρ fun w S1 => (fo ρ S1).toR ρ fun o S2 => locR o fun n => insC c S2[n]? fun ns ws => .nx ρ (S2.set n (.ins c (putN f ns) (putA f w ns ws))) := by
  unfold sFldS
  congr 1
  funext w S1
  congr 1
  funext o S2
  cases o with
  | val p => rfl
  | loc n =>
    simp only [locR_loc]
    unfold insC
    cases S2[n]? with
    | none => rfl
    | some c' =>
      cases c' with
      | ins c'' ns ws =>
        simp only
        split
        · rename_i h; rw [h.1]
        · rfl
      | _ => rfl
@[simp] theorem itemsW_loc (S : Store) (n : Nat) : itemsW (.loc n) S = itemsC S n S[n]? := by
  unfold itemsW itemsC frz1
  cases h : S[n]? with
  | none => simp [h]
  | some c =>
    cases c with
    | lst ws => cases h2 : valAll ws <;> simp [h, h2]
    | frz p => cases p <;> simp [h]
    | ins _ _ _ => simp [h]
@[simp] theorem itemsC_lst (S : Store) (n : Nat) (ws : List W) : itemsC S n (some (.lst ws)) = optR (valAll ws) fun ps => .ok ps (S.set n (.frz (.lst ps))) := by
  cases h : valAll ws <;> simp [itemsC, h]
@[simp] theorem itemsC_frz (S : Store) (n : Nat) (ps : List P) : itemsC S n (some (.frz (.lst ps))) = .ok ps S := id rfl
/-- a loop over a range, the state told by a predicate -/
theorem forGo_rngJ (J : Nat → Env → Store → Prop) {t : Tg} {body : FS} {lo : Int} {n : Nat} (step : ∀ (k : Nat) ρ S, k < n → J k ρ S → ∃ ρ' S', (bindR (bindT t (.int (lo + (k : Int))) ρ) S).seq body = .nx ρ' S' ∧ J (k + 1) ρ' S') {ρ : Env} {S : Store} (h : J 0 ρ S) :
    ∃ ρ' S', forGo t body (rngP lo n) ρ S = .nx ρ' S' ∧ J n ρ' S' := by
  obtain ⟨⟨ρ', S'⟩, e, j⟩ := forGo_rng (σ := Env × Store) (fun s => s.1) (fun s => s.2) (fun k s => J k s.1 s.2) (t := t) (body := body) (lo := lo) (n := n) (fun k s hk hj => by
    obtain ⟨ρ', S', e, j⟩ := step k s.1 s.2 hk hj
    exact ⟨(ρ', S'), e, j⟩) (s := (ρ, S)) h
  exact ⟨ρ', S', e, j⟩
theorem forGo_lstJ (enc : α → P) (J : List α → Env → Store → Prop) {t : Tg} {body : FS} (step : ∀ a r ρ S, J (a :: r) ρ S → ∃ ρ' S', (bindR (bindT t (enc a) ρ) S).seq body = .nx ρ' S' ∧ J r ρ' S') {xs : List α} {ρ : Env} {S : Store} (h : J xs ρ S) :
    ∃ ρ' S', forGo t body (xs.map enc) ρ S = .nx ρ' S' ∧ J [] ρ' S' := by
  obtain ⟨⟨ρ', S'⟩, e, j⟩ := forGo_inv (σ := Env × Store) (fun s => s.1) (fun s => s.2) enc (fun r s => J r s.1 s.2) (t := t) (body := body) (fun a r s hj => by
    obtain ⟨ρ', S', e, j⟩ := step a r s.1 s.2 hj
    exact ⟨(ρ', S'), e, j⟩) xs (ρ, S) h
  exact ⟨ρ', S', e, j⟩
/-! what a statement's result must be -/
def R.goes (r : R) (J : Env → Store → Prop) : Prop := match r with
  | .nx ρ S => J ρ S
  | .ct ρ S => J ρ S
  | _ => False
@[simp] theorem goes_nx (ρ : Env) (S : Store) (J : Env → Store → Prop) : (R.nx ρ S).goes J = J ρ S := id rfl
@[simp] theorem goes_ct (ρ : Env) (S : Store) (J : Env → Store → Prop) : (R.ct ρ S).goes J = J ρ S := id rfl
@[simp] theorem goes_ite (c : Prop) [Decidable c] (a b : R) (J : Env → Store → Prop) : (if c then a else b).goes J = if c then a.goes J else b.goes J := by split <;> rfl
theorem goes_ex {r : R} {J : Env → Store → Prop} (h : r.goes J) : (∃ ρ S, r = .nx ρ S ∧ J ρ S) ∨ (∃ ρ S, r = .ct ρ S ∧ J ρ S) := by
  cases r with
  | nx ρ S => exact .inl ⟨ρ, S, rfl, h⟩
  | ct ρ S => exact .inr ⟨ρ, S, rfl, h⟩
  | _ => exact h.elim
theorem goes_seq {r : R} {g : FS} {J J' : Env → Store → Prop} (h : ∃ ρ S, r = .nx ρ S ∧ J ρ S) (hg : ∀ ρ S, J ρ S → (g ρ S).goes J') : (r.seq g).goes J' := by
  obtain ⟨ρ, S, rfl, j⟩ := h
  exact hg ρ S j
def lstC : Option Cell → Option (List W)
  | some (.lst ws) => some ws
  | some (.frz (.lst ps)) => some (ps.map .val)
  | _ => none
@[simp] theorem lstWs_lst (S : Store) (ps : List P) : lstWs S (.val (.lst ps)) = some (ps.map .val) := id rfl
@[simp] theorem lstWs_loc (S : Store) (n : Nat) : lstWs S (.loc n) = lstC S[n]? := by unfold lstWs lstC; rfl
@[simp] theorem lstC_lst (ws : List W) : lstC (some (.lst ws)) = some ws := id rfl
@[simp] theorem lstC_frz (ps : List P) : lstC (some (.frz (.lst ps))) = some (ps.map .val) := id rfl
@[simp] theorem extendW_ap (S : Store) (n : Nat) (w : W) : extendW (.loc n) [w] S = liveC S[n]? fun xs => optR (lstWs S w) fun ys => if xs.length + ys.length ≤ 100000 then .ok (.val .non) (S.set n (.lst (xs ++ ys))) else .bad := by
  unfold extendW liveL
  cases h : S[n]? with
  | none => simp [h, liveC]
  | some c =>
    cases c with
    | lst xs => cases h2 : lstWs S w <;> simp [h, liveC, h2]
    | frz p => simp [h, liveC]
    | ins _ _ _ => simp [h, liveC]
/-- a loop over a list -/
theorem for_lst (enc : α → P) (J : List α → Env → Store → Prop) {t : Tg} {body : FS} (step : ∀ a r ρ S, J (a :: r) ρ S → ((bindR (bindT t (enc a) ρ) S).seq body).goes (J r)) :
    ∀ {xs : List α} {ρ : Env} {S : Store}, J xs ρ S → ∃ ρ' S', forGo t body (xs.map enc) ρ S = .nx ρ' S' ∧ J [] ρ' S'
  | [], ρ, S, h => ⟨ρ, S, rfl, h⟩
  | a :: r, ρ, S, h => by
    rw [List.map_cons, forGo_cons]
    rcases goes_ex (step a r ρ S h) with ⟨ρ', S', e, j⟩ | ⟨ρ', S', e, j⟩
    · rw [e, rd_nx]
      exact for_lst enc J step j
    · rw [e, rd_ct]
      exact for_lst enc J step j
theorem for_rng (J : Nat → Env → Store → Prop) {t : Tg} {body : FS} {lo : Int} {n : Nat} (step : ∀ (k : Nat) ρ S, k < n → J k ρ S → ((bindR (bindT t (.int (lo + (k : Int))) ρ) S).seq body).goes (J (k + 1))) {ρ : Env} {S : Store} (h : J 0 ρ S) :
    ∃ ρ' S', forGo t body (rngP lo n) ρ S = .nx ρ' S' ∧ J n ρ' S' := by
  have := for_lst (fun (k : Nat) => P.int (lo + (k : Int))) (fun r ρ S => ∃ k, k + r.length = n ∧ r = List.range' k r.length ∧ J k ρ S) (t := t) (body := body) (by
    rintro a r ρ S ⟨k, hk, he, hj⟩
    simp only [List.length_cons, List.range'_succ, List.cons.injEq] at he hk
    obtain ⟨rfl, he⟩ := he
    have q := step a ρ S (by omega) hj
    generalize (bindR (bindT t (.int (lo + (a : Int))) ρ) S).seq body = z at q
    cases z with
    | nx ρ S => exact ⟨a + 1, by omega, he, q⟩
    | ct ρ S => exact ⟨a + 1, by omega, he, q⟩
    | _ => exact q.elim) (xs := List.range n) (ρ := ρ) (S := S) ⟨0, by simp, by simp [List.range_eq_range'], h⟩
  obtain ⟨ρ', S', e, k, hk, _, hj⟩ := this
  simp only [List.length_nil, Nat.add_zero] at hk
  subst hk
  exact ⟨ρ', S', e, hj⟩
theorem mulOk_c {i j : Int} (h : -18446744073709551616 < j ∧ j < 18446744073709551616) : mulOk i j = true := mulOk_r (by omega)
theorem mulOk_d {i j : Int} (h : -18446744073709551616 < i ∧ i < 18446744073709551616) : mulOk i j = true := mulOk_l (by omega)
end Z
end
-- part Z13
section
set_option Elab.async false
set_option linter.all false
set_option maxRecDepth 100000
set_option autoImplicit false
namespace Z
open PySem PySem.Spec PyProof.Rows L2
/-! ### equality of data -/
/-- plain data of at most n levels of lists -/
def shP : Nat → P → Bool
  | _, .non => true
  | _, .bl _ => true
  | _, .int _ => true
  | _, .str x => PyData.strOk x
  | n + 1, .tup ps => ps.all (shP n)
  | n + 1, .lst ps => ps.all (shP n)
  | _, _ => false
@[simp] theorem shP_non (n : Nat) : shP n .non = true := by cases n <;> simp [shP]
@[simp] theorem shP_bl (n : Nat) (b : Bool) : shP n (.bl b) = true := by cases n <;> simp [shP]
@[simp] theorem shP_int (n : Nat) (b : Int) : shP n (.int b) = true := by cases n <;> simp [shP]
@[simp] theorem shP_str (n : Nat) (b : Str) : shP n (.str b) = PyData.strOk b := by cases n <;> simp [shP]
@[simp] theorem shP_tup (n : Nat) (ps : List P) : shP (n + 1) (.tup ps) = ps.all (shP n) := by simp [shP]
@[simp] theorem shP_lst (n : Nat) (ps : List P) : shP (n + 1) (.lst ps) = ps.all (shP n) := by simp [shP]
theorem sh_py : ∀ (n : Nat) (p : P), shP n p = true → ∃ d, toPy p = some d ∧ d.canLay0 = true ∧ d.depth ≤ n + 1 ∧ d.eqv d = true
  | n, .non, h => ⟨.none, by simp [toPy], rfl, by unfold PyData.depth; omega, rfl⟩
  | n, .bl b, h => ⟨.bool b, by simp [toPy], rfl, by unfold PyData.depth; omega, by simp [PyData.eqv]⟩
  | n, .int b, h => ⟨.int b, by simp [toPy], rfl, by unfold PyData.depth; omega, by simp [PyData.eqv]⟩
  | n, .str x, h => ⟨.str x, by simp [toPy], by simpa [PyData.canLay0] using h, by unfold PyData.depth; omega, by simp [PyData.eqv]⟩
  | 0, .tup ps, h => by simp [shP] at h
  | 0, .lst ps, h => by simp [shP] at h
  | n, .scr ps, h => by cases n <;> simp [shP] at h
  | n, .dct _ _, h => by cases n <;> simp [shP] at h
  | n, .obj _ _ _, h => by cases n <;> simp [shP] at h
  | n + 1, .tup ps, h => by
    rw [shP_tup] at h
    have key : ∀ qs : List P, qs.all (shP n) = true → ∃ ds, toPyL qs = some ds ∧ PyData.canLayAll0 ds = true ∧ PyData.depthAll ds ≤ n + 1 ∧ PyData.eqvAll ds ds = true := by
      intro qs
      induction qs with
      | nil => intro _; exact ⟨[], by simp [toPyL], rfl, by simp [PyData.depthAll], rfl⟩
      | cons q qs ih =>
        intro h
        rw [List.all_cons, Bool.and_eq_true] at h
        obtain ⟨d, a1, a2, a3, a4⟩ := sh_py n q h.1
        obtain ⟨ds, b1, b2, b3, b4⟩ := ih h.2
        exact ⟨d :: ds, by simp [toPyL, a1, b1], by simp [PyData.canLayAll0, a2, b2], by unfold PyData.depthAll; omega, by simp [PyData.eqvAll, a4, b4]⟩
    obtain ⟨ds, b1, b2, b3, b4⟩ := key ps h
    exact ⟨.tuple ds, by simp [toPy, b1], by simpa [PyData.canLay0] using b2, by unfold PyData.depth; omega, by simpa [PyData.eqv] using b4⟩
  | n + 1, .lst ps, h => by
    rw [shP_lst] at h
    have key : ∀ qs : List P, qs.all (shP n) = true → ∃ ds, toPyL qs = some ds ∧ PyData.canLayAll0 ds = true ∧ PyData.depthAll ds ≤ n + 1 ∧ PyData.eqvAll ds ds = true := by
      intro qs
      induction qs with
      | nil => intro _; exact ⟨[], by simp [toPyL], rfl, by simp [PyData.depthAll], rfl⟩
      | cons q qs ih =>
        intro h
        rw [List.all_cons, Bool.and_eq_true] at h
        obtain ⟨d, a1, a2, a3, a4⟩ := sh_py n q h.1
        obtain ⟨ds, b1, b2, b3, b4⟩ := ih h.2
        exact ⟨d :: ds, by simp [toPyL, a1, b1], by simp [PyData.canLayAll0, a2, b2], by unfold PyData.depthAll; omega, by simp [PyData.eqvAll, a4, b4]⟩
    obtain ⟨ds, b1, b2, b3, b4⟩ := key ps h
    exact ⟨.list ds, by simp [toPy, b1], by simpa [PyData.canLay0] using b2, by unfold PyData.depth; omega, by simpa [PyData.eqv] using b4⟩
theorem shaped_of {d : PyData} {n : Nat} (h1 : d.canLay0 = true) (h2 : d.depth ≤ n + 1) (hn : n ≤ 60) : SeqAt.shaped d = true := by
  unfold SeqAt.shaped
  rw [h1, Bool.true_and, decide_eq_true_eq]
  omega
theorem eqP_refl {p : P} (n : Nat) (h : shP n p = true) (hn : n ≤ 60 := by decide) : eqP p p = some true := by
  obtain ⟨d, h1, h2, h3, h4⟩ := sh_py n p h
  have hs := shaped_of h2 h3 hn
  unfold eqP
  cases p <;> simp [h1, hs, h4]
/-- two data of one kind: equal in Python iff equal -/
def pyEq (n : Nat) (p q : P) (k : Bool) : Prop := ∃ d e, toPy p = some d ∧ toPy q = some e ∧ d.canLay0 = true ∧ e.canLay0 = true ∧ d.depth ≤ n + 1 ∧ e.depth ≤ n + 1 ∧ d.eqv e = k
theorem eqP_of {p q : P} {n : Nat} {k : Bool} (h : pyEq n p q k) (hn : n ≤ 60 := by decide) : (∃ ps, p = .lst ps ∨ p = .tup ps) → eqP p q = some k := by
  obtain ⟨d, e, h1, h2, h3, h4, h5, h6, h7⟩ := h
  have s1 := shaped_of h3 h5 hn
  have s2 := shaped_of h4 h6 hn
  rintro ⟨ps, rfl | rfl⟩ <;> cases q <;> simp [eqP, h1, h2, s1, s2, h7]
/-! ### in -/
@[simp] theorem flatP_non : flatP .non = true := id rfl
@[simp] theorem flatP_bl (b : Bool) : flatP (.bl b) = true := id rfl
@[simp] theorem flatP_int (b : Int) : flatP (.int b) = true := id rfl
@[simp] theorem flatP_str (b : Str) : flatP (.str b) = true := id rfl
@[simp] theorem eqF_str (a b : Str) : eqF (.str a) (.str b) = (a == b) := id rfl
@[simp] theorem eqF_int (a b : Int) : eqF (.int a) (.int b) = (a == b) := id rfl
@[simp] theorem inP_lst (p : P) (ps : List P) : inP p (.lst ps) = if flatP p && ps.all flatP then some (ps.any fun q => eqF q p) else none := by cases p <;> rfl
@[simp] theorem inP_tup (p : P) (ps : List P) : inP p (.tup ps) = if flatP p && ps.all flatP then some (ps.any fun q => eqF q p) else none := by cases p <;> rfl
def inR (neg : Bool) (o : Option Bool) (S : Store) : RE W := match o with
  | some k => .ok (.val (.bl (if neg = true then !k else k))) S
  | none => .bad
@[simp] theorem inR_some (neg k : Bool) (S : Store) : inR neg (some k) S = .ok (.val (.bl (if neg = true then !k else k))) S := id rfl
@[simp] theorem inW_vv (neg : Bool) (p q : P) (S : Store) : inW neg (.val p) (.val q) S = inR neg (inP p q) S := by
  unfold inW inR
  rfl
@[simp] theorem tupleW_lst (ps : List P) (S : Store) : tupleW [.val (.lst ps)] S = .ok (.val (.tup ps)) S := by
  simp [tupleW, doFrzs, frzs_vals]
@[simp] theorem tupleW_tup (ps : List P) (S : Store) : tupleW [.val (.tup ps)] S = .ok (.val (.tup ps)) S := id rfl
/-! ### slices, min, max, downwards -/
@[simp] theorem eSl_ap (fa : FE W) (fl fh : FE (Option Int)) (ρ : Env) (S : Store) : eSl fa fl fh ρ S = (fa ρ S).bind fun w S1 => (fl ρ S1).bind fun lo S2 => (fh ρ S2).bind fun hi S3 => sliceW w lo hi S3 := id rfl
@[simp] theorem pNone_ap (ρ : Env) (S : Store) : pNone ρ S = .ok none S := id rfl
@[simp] theorem pSome_ap (f : FE W) (ρ : Env) (S : Store) : pSome f ρ S = (f ρ S).bind asI := id rfl
@[simp] theorem asI_int (i : Int) (S : Store) : asI (.val (.int i)) S = .ok (some i) S := id rfl
@[simp] theorem doFrzs_vals (ps : List P) (S : Store) : doFrzs (ps.map .val) S = .ok ps S := by simp [doFrzs, frzs_vals]
theorem cutA_map {α β : Type} (f : α → β) (xs : List α) (lo hi : Option Int) : cutA (xs.map f) lo hi = (cutA xs lo hi).map f := by simp [cutA, List.map_drop, List.map_take]
@[simp] theorem sliceW_lst (ps : List P) (lo hi : Option Int) (S : Store) : sliceW (.val (.lst ps)) lo hi S = .ok (.val (.lst (cutA ps lo hi))) S := by
  simp [sliceW, cutA_map]
@[simp] theorem revW_lst (ps : List P) (S : Store) : revW (.val (.lst ps)) S = .ok (.val (.lst ps.reverse)) S := by simp [revW]
theorem cut_dropLast {α : Type} (xs : List α) : cutA xs none (some (-1)) = xs.dropLast := by
  unfold cutA
  rw [HT.sIx_none]
  have : HT.sIx xs.length xs.length (some (-1)) = xs.length - 1 := by
    simp only [HT.sIx]
    rw [if_pos (by omega)]
    omega
  rw [this, List.dropLast_eq_take]
  simp
theorem cut_range {α : Type} (xs : List α) (i j : Int) (h0 : 0 ≤ i) (h1 : i ≤ j) (h2 : j ≤ xs.length) : cutA xs (some i) (some j) = (xs.drop i.toNat).take (j.toNat - i.toNat) := by
  have e1 : HT.sIx xs.length 0 (some i) = i.toNat := by simp only [HT.sIx]; rw [if_neg (by omega)]; omega
  have e2 : HT.sIx xs.length xs.length (some j) = j.toNat := by simp only [HT.sIx]; rw [if_neg (by omega)]; omega
  unfold cutA
  rw [e1, e2]
@[simp] theorem minW_lst (ps : List P) (S : Store) : minW [.val (.lst ps)] S = orBad (((intsOf ps).bind minI).map fun m => .val (.int m)) S := id rfl
@[simp] theorem maxW_lst (ps : List P) (S : Store) : maxW [.val (.lst ps)] S = orBad (((intsOf ps).bind maxI).map fun m => .val (.int m)) S := id rfl
def rngRD (ws : List W) (S1 : Store) : RE (List P) := match ws with
  | [.val (.int i), .val (.int j), .val (.int (-1))] => if rngOk i j = true then .ok (rngD i (i - j).toNat) S1 else .bad
  | _ => .bad
@[simp] theorem iRangeD_ap (fa : FE (List W)) (ρ : Env) (S : Store) : iRangeD fa ρ S = (fa ρ S).bind rngRD := id rfl
@[simp] theorem rngRD_int (i j : Int) (S : Store) : rngRD [.val (.int i), .val (.int j), .val (.int (-1))] S = if rngOk i j = true then .ok (rngD i (i - j).toNat) S else .bad := id rfl
@[simp] theorem bitsW_int (i : Int) (S : Store) : bitsW (.val (.int i)) S = .ok (.val (.int (Builtin.Int.intBits i : Nat))) S := id rfl
@[simp] theorem eAG_ap (sb : Bool) (fi : FI) (vs : List Nat) (t : Tg) (e : FE W) (ρ : Env) (S : Store) : eAG sb fi vs t e ρ S = (fi ρ S).bind fun ps S1 => (agGo sb t e (wipeE ρ vs) ps S1).bind fun k S2 => .ok (.val (.bl k)) S2 := id rfl
/-- all(..): every test true, or the first false one -/
theorem agGo_all {α : Type} {t : Tg} {e : FE W} {ρ : Env} {S : Store} (enc : α → P) (g : α → Bool) {xs : List α} (h : ∀ a ∈ xs, ∃ ρ1, bindT t (enc a) ρ = some ρ1 ∧ e ρ1 S = .ok (.val (.bl (g a))) S) :
    agGo false t e ρ (xs.map enc) S = .ok (xs.all g) S := by
  induction xs with
  | nil => rfl
  | cons a r ih =>
    obtain ⟨ρ1, h1, h2⟩ := h a List.mem_cons_self
    rw [List.map_cons, agGo, h1]
    simp only [h2, noEx, rb_ok, asB_bl, ih fun a h' => h a (List.mem_cons_of_mem _ h'), List.all_cons]
    cases g a <;> simp
theorem agGo_any {α : Type} {t : Tg} {e : FE W} {ρ : Env} {S : Store} (enc : α → P) (g : α → Bool) {xs : List α} (h : ∀ a ∈ xs, ∃ ρ1, bindT t (enc a) ρ = some ρ1 ∧ e ρ1 S = .ok (.val (.bl (g a))) S) :
    agGo true t e ρ (xs.map enc) S = .ok (xs.any g) S := by
  induction xs with
  | nil => rfl
  | cons a r ih =>
    obtain ⟨ρ1, h1, h2⟩ := h a List.mem_cons_self
    rw [List.map_cons, agGo, h1]
    simp only [h2, noEx, rb_ok, asB_bl, ih fun a h' => h a (List.mem_cons_of_mem _ h'), List.any_cons]
    cases g a <;> simp
theorem for_idx (f : Nat → P) (J : Nat → Env → Store → Prop) {t : Tg} {body : FS} {n : Nat} (step : ∀ (k : Nat) ρ S, k < n → J k ρ S → ((bindR (bindT t (f k) ρ) S).seq body).goes (J (k + 1))) {ρ : Env} {S : Store} (h : J 0 ρ S) :
    ∃ ρ' S', forGo t body ((List.range n).map f) ρ S = .nx ρ' S' ∧ J n ρ' S' := by
  have := for_lst f (fun r ρ S => ∃ k, k + r.length = n ∧ r = List.range' k r.length ∧ J k ρ S) (t := t) (body := body) (by
    rintro a r ρ S ⟨k, hk, he, hj⟩
    simp only [List.length_cons, List.range'_succ, List.cons.injEq] at he hk
    obtain ⟨rfl, he⟩ := he
    have q := step a ρ S (by omega) hj
    generalize (bindR (bindT t (f a) ρ) S).seq body = z at q
    cases z with
    | nx ρ S => exact ⟨a + 1, by omega, he, q⟩
    | ct ρ S => exact ⟨a + 1, by omega, he, q⟩
    | _ => exact q.elim) (xs := List.range n) (ρ := ρ) (S := S) ⟨0, by simp, by simp [List.range_eq_range'], h⟩
  obtain ⟨ρ', S', e, k, hk, _, hj⟩ := this
  simp only [List.length_nil, Nat.add_zero] at hk
  subst hk
  exact ⟨ρ', S', e, hj⟩
end Z
end
-- part ZI
section
set_option Elab.async false
set_option linter.all false
set_option maxRecDepth 100000
set_option autoImplicit false
namespace Z
open PySem PySem.Spec PyProof.Rows L2
/-! ### len(set(xs)) of a list of numbers -/
def dedup (ns : List Int) : List Int := ns.foldl PyProof.Rows.step_dedup []
theorem firstMet_all (ns : List Int) : PyProof.Rows.firstMet (fun i => ns.getD i 0) ns.length = dedup ns := by
  unfold PyProof.Rows.firstMet dedup
  congr 1
  refine List.ext_getElem (by simp) fun i h1 h2 => ?_
  simp at h1
  simp [List.getD_eq_getElem?_getD, h1]
def tSetLen (K : PySem.W.Frag) (ta : TE) : TE := fun σ H Q => ta σ H fun x H1 => ∃ (l : Addr) (ns : List Int), x = .ref l ∧ SqL K H1 l (ns.map V.int) ∧ ns.length ≤ 4000 ∧ Q (.int ((dedup ns).length : Nat)) H1
variable {X : Cx}
theorem pe_setLen {a : Expr} {ta : TE} {p p2 q pos : Pos} (hg : Gl X "len") (hm : X.mg "len" = none) (hg2 : Gl X "set") (hm2 : X.mg "set" = none) (ha : PE X a ta) (hc : X.calm = true := by rfl)
    (na : starEach [a] X.env = (false, eval a X.env) :: starEach [] X.env := by rfl) : PE X (.Call (.Name "len" p) [.Call (.Name "set" p2) [a] [] q] [] pos) (tSetLen X.K ta) := by
  refine ⟨fun pins s σ H Q I h => ?_⟩
  refine Call_ (ld_blt I hg hm boot_len ?_)
  refine PyProof.Rows.callWith_builtin1 (PyProof.Rows.args_cons ?_ rfl) rfl rfl
  refine Call_ (ld_blt I hg2 hm2 boot_set ?_)
  refine PyProof.Rows.callWith_type1 (PyProof.Rows.args_cons (thn (ha.run pins s σ H _ I h) fun v s1 ⟨x, H1, I1, r1, q1⟩ => PyProof.Rows.args_nil ?_) na) na rfl
  obtain ⟨l, ns, rfl, hq, hl, q1⟩ := q1
  cases r1
  obtain ⟨its, r, pl, hz⟩ := I1.list hq
  have hlen : its.toArray.size = ns.length := by rw [List.size_toArray, ← r.length, List.length_map]
  refine call_set_list (I1.ok.hd hc) pl.isList (by simpa using RZ.intsAre_vals r) (by rw [hlen]; unfold scanBound; omega) fun h' tk hS hk => ?_
  refine PyProof.Rows.args_nil ?_
  have hd0 := PyProof.Rows.firstMet_length_le (fun i => ns.getD i 0) ns.length
  rw [hlen, firstMet_all ns] at hS
  rw [firstMet_all ns] at hd0
  obtain ⟨o, es, ep, t, ho, hex, hd, _, _, _, hf, hn⟩ := hS
  have I2 : Inv X pins σ H1 { s1 with heap := h', toks := tk } := I1.kept fun b o e => hk b o (Heap.lt_size e) e
  exact call_len_set ho hex hd hf (by rw [hn] <;> omega) ⟨.int (dedup ns).length, H1, I2.tok _, ⟨_, by rw [hn]⟩, q1⟩
variable {CT : CTb} {U : WX}
def setLenW (w : W) (S : Store) : RE W := match pOf S w with
  | some (.lst ps) => match intsOf ps with
    | some ns => if ns.length ≤ 4000 then .ok (.val (.int ((dedup ns).length : Nat))) S else .bad
    | none => .bad
  | _ => .bad
variable {a : Expr} {fa : FE W} {p p2 q pos : Pos}
theorem pz_setLen (hc : X.calm = true) (hg : Gl X "len") (hm : X.mg "len" = none) (hg2 : Gl X "set") (hm2 : X.mg "set" = none) (ha : PZ X CT U a fa)
    (na : starEach [a] X.env = (false, eval a X.env) :: starEach [] X.env := by rfl) : PZ X CT U (.Call (.Name "len" p) [.Call (.Name "set" p2) [a] [] q] [] pos) (eUn setLenW fa) := weakE (pe_setLen hg hm hg2 hm2 ha hc na) fun σ H Q ⟨s, S, ρ, gd, en, h⟩ =>
  ⟨s, S, ρ, gd, en, RG.step h fun w S1 s1 H1 v x1 g1 r1 h1 => by
    unfold setLenW at h1
    split at h1
    · rename_i ps e
      obtain ⟨l, vs, rfl, h2, h3⟩ := (pOf_ok g1 r1 e).lst g1
      split at h1
      · rename_i ns e3
        split at h1
        · rename_i hl
          exact ⟨l, ns, rfl, by rw [← intsOf_ok e3 h3]; exact SqL.of h2, hl, RG.here h1 g1 rfl⟩
        · exact h1.elim
      · exact h1.elim
    · exact h1.elim⟩
@[simp] theorem setLenW_lst (ps : List P) (S : Store) : setLenW (.val (.lst ps)) S = match intsOf ps with
    | some ns => if ns.length ≤ 4000 then .ok (.val (.int ((dedup ns).length : Nat))) S else .bad
    | none => .bad := id rfl
end Z
end
-- part G15M
section
set_option Elab.async false
set_option linter.all false
set_option maxRecDepth 100000
set_option maxHeartbeats 0
set_option autoImplicit false
namespace Gk15
open PySem PySem.Spec PyProof.Rows L2 Z
noncomputable section
def exmL : List ((Str × Str) × Bool) := [(("InvalidTrain", "NotFitting"), false), (("InvalidTrain", "BadNumber"), false), (("InvalidLayout", "NotFitting"), false), (("InvalidLayout", "BadNumber"), false), (("CoasterError", "NotFitting"), false), (("CoasterError", "BadNumber"), false), (("BadNumber", "NotFitting"), false), (("BadNumber", "BadNumber"), true), (("NotFitting", "NotFitting"), true), (("NotFitting", "BadNumber"), false), (("InvalidRide", "NotFitting"), false), (("InvalidRide", "BadNumber"), false), (("InvalidTrain", "InvalidRide"), false), (("InvalidLayout", "InvalidRide"), false), (("CoasterError", "InvalidRide"), false), (("BadNumber", "InvalidRide"), false), (("NotFitting", "InvalidRide"), false), (("InvalidRide", "InvalidRide"), true)]
def exmT (r c : Str) : Option Bool := exmL.lookup (r, c)
/-! _law_draws -/
def m_l_draws_b1 : FS := (sIf (tAndB (tstB (eBin geW (eVar 0) (eBin powW (eCst (.int 10)) (eCst (.int 18))))) (tstB (eBin gtW (eVar 3) (eCst (.int 0))))) (sSeq (sExpr (eBM "list" appendW (eVar 2) (aCons (eBin modW (eCB intW (aCons (eVar 3) aNil)) (eCst (.int 4096))) aNil)))
  (sAsg 3 (eBin fdivW (eVar 3) (eCst (.int 4096))))) (sSeq (sAsg 5 (eBin modW (eCB intW (aCons (eBin addW (eBin mulW (eVar 0) (eCst (.int 48271))) (eBin mulW (eBin addW (eVar 4) (eCst (.int 1))) (eCst (.int 69621)))) aNil)) (eCst (.int 2147483647))))
  (sSeq (sAsg 5 (eBin modW (eCB intW (aCons (eBin addW (eBin addW (eBin mulW (eVar 5) (eVar 5)) (eBin mulW (eVar 5) (eCst (.int 16807)))) (eBin mulW (eVar 4) (eCst (.int 7919)))) aNil)) (eCst (.int 2147483629))))
  (sSeq (sAsg 5 (eBin modW (eCB intW (aCons (eBin addW (eBin addW (eBin mulW (eVar 5) (eVar 5)) (eVar 0)) (eBin mulW (eCst (.int 13)) (eVar 4))) aNil)) (eCst (.int 2147483587))))
  (sExpr (eBM "list" appendW (eVar 2) (aCons (eBin modW (eBin fdivW (eVar 5) (eCst (.int 7))) (eCst (.int 4096))) aNil)))))))
def m_l_draws : List P → Rp := runP 6 (sSeq (sAsg 2 (eLst aNil))
  (sSeq (sAsg 3 (eVar 0))
  (sSeq (sFor (iRange1 (aCons (eVar 1) aNil)) (.nm 4) m_l_draws_b1)
  (sRet (eVar 2)))))
/-! _law_cell -/
def m_l_cell : List P → Rp := runP 2 (sSeq (sIf (tstB (eBin ltW (eVar 1) (eCB lenW (aCons (eVar 0) aNil)))) (sRet (eCB absW (aCons (eCB intW (aCons (eBin ixW (eVar 0) (eVar 1)) aNil)) aNil))) sSkip)
  (sRet (eCst (.int 0))))
/-! _law_safe_rows -/
def m_l_safe_rows : List P → Rp := runP 3 (sSeq (sAsg 1 (eBin addW (eCst (.int 2)) (eBin modW (eBin ixW (eVar 0) (eCst (.int 0))) (eCst (.int 5)))))
  (sSeq (sAsg 2 (eBin addW (eCst (.int 5)) (eBin modW (eBin ixW (eVar 0) (eCst (.int 1))) (eCst (.int 26)))))
  (sRet (eLstP (aCons (eTup (aCons (eCst (.str "coast")) (aCons (eCst (.int 4)) (aCons (eCst (.int 0)) aNil)))) (aCons (eTup (aCons (eCst (.str "lift")) (aCons (eVar 1) (aCons (eVar 2) aNil)))) (aCons (eTup (aCons (eCst (.str "coast")) (aCons (eVar 1) (aCons (eBin subW (eCst (.int 0)) (eVar 2)) aNil)))) (aCons (eTup (aCons (eCst (.str "brake")) (aCons (eBin addW (eCst (.int 3)) (eBin modW (eBin ixW (eVar 0) (eCst (.int 2))) (eCst (.int 4)))) (aCons (eCst (.int 0)) aNil)))) (aCons (eTup (aCons (eCst (.str "coast")) (aCons (eBin addW (eCst (.int 4)) (eBin modW (eBin ixW (eVar 0) (eCst (.int 3))) (eCst (.int 4)))) (aCons (eCst (.int 0)) aNil)))) (aCons (eTup (aCons (eCst (.str "brake")) (aCons (eBin addW (eCst (.int 3)) (eBin modW (eBin ixW (eVar 0) (eCst (.int 4))) (eCst (.int 4)))) (aCons (eCst (.int 0)) aNil)))) aNil))))))))))
/-! _law_safe_train -/
def m_l_safe_train : List P → Rp := runP 3 (sSeq (sAsg 1 (eBin modW (eBin ixW (eVar 0) (eCst (.int 5))) (eCst (.int 60))))
  (sSeq (sAsg 2 (eBin addW (eCst (.int 400000)) (eBin mulW (eCst (.int 7)) (eBin ixW (eVar 0) (eCst (.int 6))))))
  (sRet (eLstP (aCons (eBin addW (eCst (.int 1)) (eBin modW (eBin ixW (eVar 0) (eCst (.int 7))) (eCst (.int 4)))) (aCons (eTup (aCons (eVar 1) (aCons (eBin addW (eVar 1) (eBin modW (eBin ixW (eVar 0) (eCst (.int 8))) (eCst (.int 60)))) aNil))) (aCons (eTup (aCons (eVar 2) (aCons (eBin addW (eVar 2) (eBin mulW (eCst (.int 11)) (eBin ixW (eVar 0) (eCst (.int 9))))) aNil))) (aCons (eBin addW (eCst (.int 40000)) (eBin ixW (eVar 0) (eCst (.int 10)))) (aCons (eBin addW (eCst (.int 20000)) (eBin ixW (eVar 0) (eCst (.int 11)))) aNil)))))))))
/-! _law_drawn_segments -/
def m_l_drawn_segments_b1 : FS := (sSeq (sAsg 7 (eBin ixW (eVar 0) (eBin addW (eBin addW (eCst (.int 4)) (eBin mulW (eCst (.int 3)) (eVar 5))) (eVar 6))))
  (sSeq (sAsg 8 (eBin ixW (eLstP (aCons (eCst (.str "coast")) (aCons (eCst (.str "coast")) (aCons (eCst (.str "lift")) aNil)))) (eBin modW (eVar 7) (eCst (.int 3)))))
  (sSeq (sAsg 9 (eBin subW (eBin modW (eBin fdivW (eVar 7) (eCst (.int 3))) (eCst (.int 61))) (eCst (.int 30))))
  (sSeq (sAsg 10 (eBin addW (eCst (.int 1)) (eBin modW (eBin fdivW (eVar 7) (eCst (.int 200))) (eVar 1))))
  (sSeq (sExpr (eBM "list" appendW (eVar 3) (aCons (eTup (aCons (eVar 8) (aCons (eVar 10) (aCons (eVar 9) aNil)))) aNil)))
  (sAsg 4 (eBin addW (eVar 4) (eBin mulW (eVar 10) (eVar 9)))))))))
def m_l_drawn_segments_b2 : FS := (sSeq (sFor (iRange1 (aCons (eBin modW (eBin ixW (eVar 0) (eBin addW (eCst (.int 1)) (eVar 5))) (eCst (.int 3))) aNil)) (.nm 6) m_l_drawn_segments_b1)
  (sSeq (sAsg 11 (eBin subW (eBin modW (eBin ixW (eVar 0) (eBin addW (eCst (.int 17)) (eVar 5))) (eCst (.int 5))) (eCst (.int 2))))
  (sSeq (sExpr (eBM "list" appendW (eVar 3) (aCons (eTup (aCons (eCst (.str "brake")) (aCons (eBin addW (eCst (.int 1)) (eBin modW (eBin ixW (eVar 0) (eBin addW (eCst (.int 14)) (eVar 5))) (eCst (.int 6)))) (aCons (eVar 11) aNil)))) aNil)))
  (sAsg 4 (eBin addW (eVar 4) (eBin mulW (eBin ixW (eBin ixW (eVar 3) (eUn negW (eCst (.int 1)))) (eCst (.int 1))) (eVar 11)))))))
def m_l_drawn_segments_b3 : FS := (sIf (tstB (eBin (eqW true) (eVar 12) (eCst (.int 0)))) (sSeq (sAsg 9 (eCB max2W (aCons (eUn negW (eCst (.int 90))) (aCons (eCB min2W (aCons (eCst (.int 90)) (aCons (eVar 12) aNil))) aNil))))
  (sSeq (sExpr (eBM "list" insertW (eVar 3) (aCons (eCst (.int 0)) (aCons (eTup (aCons (eBin ixW (eLstP (aCons (eBin ixW (eTup (aCons (eCst (.str "coast")) (aCons (eCst (.str "lift")) aNil))) (eCB intW (aCons (eBin gtW (eVar 9) (eCst (.int 0))) aNil))) (aCons (eCst (.str "coast")) aNil))) (eBin modW (eBin ixW (eVar 0) (eCst (.int 21))) (eCst (.int 2)))) (aCons (eCst (.int 1)) (aCons (eVar 9) aNil)))) aNil))))
  (sAsg 12 (eBin subW (eVar 12) (eVar 9))))) sSkip)
def m_l_drawn_segments : List P → Rp := runP 13 (sSeq (sAsg 2 (eBin addW (eCst (.int 2)) (eBin modW (eBin ixW (eVar 0) (eCst (.int 0))) (eCst (.int 2)))))
  (sSeq (sAsg 3 (eLst aNil))
  (sSeq (sAsg 4 (eCst (.int 0)))
  (sSeq (sFor (iRange1 (aCons (eVar 2) aNil)) (.nm 5) m_l_drawn_segments_b2)
  (sSeq (sExpr (eBM "list" insertW (eVar 3) (aCons (eBin modW (eBin ixW (eVar 0) (eCst (.int 20))) (eCB lenW (aCons (eVar 3) aNil))) (aCons (eTup (aCons (eCst (.str "coast")) (aCons (eBin ixW (eLstP (aCons (eCst (.int 1)) (aCons (eCst (.int 1)) (aCons (eCst (.int 1)) (aCons (eCst (.int 1)) (aCons (eCst (.int 300)) aNil)))))) (eBin modW (eBin ixW (eVar 0) (eCst (.int 22))) (eCst (.int 5)))) (aCons (eCst (.int 0)) aNil)))) aNil))))
  (sSeq (sAsg 12 (eUn negW (eVar 4)))
  (sSeq (sFor (iRange1 (aCons (eCst (.int 40)) aNil)) (.nm 6) m_l_drawn_segments_b3)
  (sRet (eVar 3)))))))))
/-! _law_drawn_layout -/
def m_l_drawn_layout : List P → Rp := runP 6 (sSeq (sAsg 1 (eCall 2 m_l_drawn_segments (aCons (eVar 0) (aCons (eCst (.int 5)) aNil))))
  (sSeq (sAsg 2 (eCB sumW (aCons (eLc (iSeq (eVar 1)) [3, 4, 5] (.tp [(.nm 3), (.nm 4), (.nm 5)]) cYes (eBin mulW (eVar 4) (eVar 5))) aNil)))
  (sSeq (sIf (tstB (eBin (eqW true) (eVar 2) (eCst (.int 0)))) (sAsg 1 (eLstP (aCons (eTup (aCons (eCst (.str "lift")) (aCons (eCst (.int 6)) (aCons (eCst (.int 25)) aNil)))) (aCons (eTup (aCons (eCst (.str "coast")) (aCons (eCst (.int 5)) (aCons (eUn negW (eCst (.int 30))) aNil)))) (aCons (eTup (aCons (eCst (.str "brake")) (aCons (eCst (.int 3)) (aCons (eCst (.int 0)) aNil)))) (aCons (eTup (aCons (eCst (.str "coast")) (aCons (eCst (.int 3)) (aCons (eCst (.int 0)) aNil)))) (aCons (eTup (aCons (eCst (.str "brake")) (aCons (eCst (.int 4)) (aCons (eCst (.int 0)) aNil)))) aNil))))))) sSkip)
  (sRet (eVar 1)))))
/-! _law_drawn_train -/
def m_l_drawn_train : List P → Rp := runP 3 (sSeq (sAsg 1 (eBin modW (eBin ixW (eVar 0) (eCst (.int 0))) (eCst (.int 400))))
  (sSeq (sAsg 2 (eBin addW (eCst (.int 5000)) (eBin mulW (eCst (.int 73)) (eBin ixW (eVar 0) (eCst (.int 1))))))
  (sRet (eLstP (aCons (eBin addW (eCst (.int 1)) (eBin modW (eBin ixW (eVar 0) (eCst (.int 2))) (eCst (.int 4)))) (aCons (eTup (aCons (eVar 1) (aCons (eBin addW (eVar 1) (eBin modW (eBin ixW (eVar 0) (eCst (.int 3))) (eCst (.int 900)))) aNil))) (aCons (eTup (aCons (eVar 2) (aCons (eBin addW (eVar 2) (eBin mulW (eCst (.int 10)) (eBin ixW (eVar 0) (eCst (.int 4))))) aNil))) (aCons (eBin addW (eCst (.int 1)) (eBin mulW (eCst (.int 30)) (eBin ixW (eVar 0) (eCst (.int 5))))) (aCons (eBin addW (eCst (.int 1)) (eBin mulW (eCst (.int 20)) (eBin ixW (eVar 0) (eCst (.int 6))))) aNil)))))))))
/-! _law_metres -/
def m_l_metres_b1 : FS := (sExpr (eBM "list" appendW (eVar 1) (aCons (eTup (aCons (eVar 3) (aCons (eVar 5) (aCons (eVar 2) aNil)))) aNil)))
def m_l_metres_b2 : FS := (sSeq (sFor (iRange1 (aCons (eVar 4) aNil)) (.nm 6) m_l_metres_b1)
  (sAsg 2 (eBin addW (eVar 2) (eCB intW (aCons (eBin (eqW false) (eVar 3) (eCst (.str "brake"))) aNil)))))
def m_l_metres : List P → Rp := runP 7 (sSeq (sAsg 1 (eLst aNil))
  (sSeq (sAsg 2 (eCst (.int 0)))
  (sSeq (sFor (iSeq (eVar 0)) (.tp [(.nm 3), (.nm 4), (.nm 5)]) m_l_metres_b2)
  (sRet (eVar 1)))))
/-! check_segments -/
def m_check_segments_b1 : FS := (sIf (tOrB (tstB (eBin (inW true) (eVar 1) (eCst (.tup [.str "coast", .str "lift", .str "brake"])))) (tOrB (tNotB (tstB (eChain leW leW (eCst (.int 1)) (eVar 2) (eCst (.int 500))))) (tNotB (tstB (eChain leW leW (eUn negW (eCst (.int 100))) (eVar 3) (eCst (.int 100))))))) (sRaise "InvalidLayout") sSkip)
def m_check_segments : List P → Rp := runP 5 (sSeq (sFor (iSeq (eVar 0)) (.tp [(.nm 1), (.nm 2), (.nm 3)]) m_check_segments_b1)
  (sSeq (sIf (tstB (eBin gtW (eCB sumW (aCons (eLc (iSeq (eVar 0)) [4, 2] (.tp [(.nm 4), (.nm 2), (.nm 4)]) cYes (eVar 2)) aNil)) (eCst (.int 4000)))) (sRaise "InvalidLayout") sSkip)
  (sSeq (sIf (tstB (eBin (eqW true) (eCB sumW (aCons (eLc (iSeq (eVar 0)) [4, 2, 3] (.tp [(.nm 4), (.nm 2), (.nm 3)]) cYes (eBin mulW (eVar 2) (eVar 3))) aNil)) (eCst (.int 0)))) (sRaise "InvalidLayout") sSkip)
  (sSeq (sIf (tOrB (tstB (eBin (eqW false) (eCB lenW (aCons (eVar 0) aNil)) (eCst (.int 0)))) (tstB (eBin (eqW true) (eBin ixW (eBin ixW (eVar 0) (eUn negW (eCst (.int 1)))) (eCst (.int 0))) (eCst (.str "brake"))))) (sRaise "InvalidLayout") sSkip)
  (sIf (tNotB (tstB (eChain leW leW (eCst (.int 2)) (eCB lenW (aCons (eLc (iSeq (eVar 0)) [1, 4] (.tp [(.nm 1), (.nm 4), (.nm 4)]) (tstB (eBin (eqW false) (eVar 1) (eCst (.str "brake")))) (eVar 1)) aNil)) (eCst (.int 12))))) (sRaise "InvalidLayout") sSkip)))))
/-! Layout.__init__ -/
def m_Layout_init_b1 : FS := (sSeq (sExpr (eBM "list" appendW (eFld "Layout" "metres" (eVar 0)) (aCons (eTup (aCons (eVar 2) (aCons (eVar 4) (aCons (eVar 5) aNil)))) aNil)))
  (sExpr (eBM "list" appendW (eFld "Layout" "heights" (eVar 0)) (aCons (eBin addW (eBin ixW (eFld "Layout" "heights" (eVar 0)) (eUn negW (eCst (.int 1)))) (eVar 4)) aNil))))
def m_Layout_init_b2 : FS := (sSeq (sIf (tstB (eBin (eqW false) (eVar 2) (eCst (.str "brake")))) (sExpr (eBM "list" appendW (eFld "Layout" "brakes" (eVar 0)) (aCons (eCB lenW (aCons (eFld "Layout" "metres" (eVar 0)) aNil)) aNil))) sSkip)
  (sSeq (sAsg 5 (eBin subW (eCB lenW (aCons (eFld "Layout" "begins" (eVar 0)) aNil)) (eCst (.int 1))))
  (sSeq (sFor (iRange1 (aCons (eVar 3) aNil)) (.nm 6) m_Layout_init_b1)
  (sIf (tstB (eBin (eqW false) (eVar 2) (eCst (.str "brake")))) (sExpr (eBM "list" appendW (eFld "Layout" "begins" (eVar 0)) (aCons (eCB lenW (aCons (eFld "Layout" "metres" (eVar 0)) aNil)) aNil))) sSkip))))
def m_Layout_init : List P → Rp := runI "Layout" 7 (sSeq (sExpr (eCall 1 m_check_segments (aCons (eVar 1) aNil)))
  (sSeq (sFldS "Layout" "segments" (eVar 0) (eCB tupleW (aCons (eVar 1) aNil)))
  (sSeq (sFldS "Layout" "metres" (eVar 0) (eLst aNil))
  (sSeq (sFldS "Layout" "begins" (eVar 0) (eLst (aCons (eCst (.int 0)) aNil)))
  (sSeq (sFldS "Layout" "brakes" (eVar 0) (eLst aNil))
  (sSeq (sFldS "Layout" "heights" (eVar 0) (eLst (aCons (eCst (.int 0)) aNil)))
  (sFor (iSeq (eVar 1)) (.tp [(.nm 2), (.nm 3), (.nm 4)]) m_Layout_init_b2)))))))
/-! _law_layout -/
def m_l_layout : List P → Rp := runP 2 (sRet (eCall 1 m_Layout_init (aCons (eLc (iSeq (eVar 0)) [1] (.nm 1) cYes (eVar 1)) aNil)))
/-! is_interval -/
def m_is_interval : List P → Rp := runP 1 (sRet (eAnd (eBin (eqW false) (eCB lenW (aCons (eVar 0) aNil)) (eCst (.int 2))) (eBin leW (eBin ixW (eVar 0) (eCst (.int 0))) (eBin ixW (eVar 0) (eCst (.int 1))))))
/-! Train.__init__ -/
def m_Train_init : List P → Rp := runI "Train" 6 (sSeq (sIf (tNotB (tstB (eChain leW leW (eCst (.int 1)) (eVar 1) (eCst (.int 100))))) (sRaise "InvalidTrain") sSkip)
  (sSeq (sIf (tOrB (tNotB (tstB (eCall 1 m_is_interval (aCons (eVar 2) aNil)))) (tOrB (tstB (eBin ltW (eBin ixW (eVar 2) (eCst (.int 0))) (eCst (.int 0)))) (tstB (eBin gtW (eBin ixW (eVar 2) (eCst (.int 1))) (eCst (.int 100000)))))) (sRaise "InvalidTrain") sSkip)
  (sSeq (sIf (tOrB (tNotB (tstB (eCall 1 m_is_interval (aCons (eVar 3) aNil)))) (tOrB (tstB (eBin ltW (eBin ixW (eVar 3) (eCst (.int 0))) (eCst (.int 1)))) (tstB (eBin gtW (eBin ixW (eVar 3) (eCst (.int 1))) (eCst (.int 1000000)))))) (sRaise "InvalidTrain") sSkip)
  (sSeq (sIf (tOrB (tNotB (tstB (eChain leW leW (eCst (.int 1)) (eVar 4) (eCst (.int 10000000))))) (tNotB (tstB (eChain leW leW (eCst (.int 1)) (eVar 5) (eCst (.int 10000000)))))) (sRaise "InvalidTrain") sSkip)
  (sSeq (sFldS "Train" "length" (eVar 0) (eVar 1))
  (sSeq (sFldS "Train" "friction" (eVar 0) (eVar 2))
  (sSeq (sFldS "Train" "brake" (eVar 0) (eVar 3))
  (sSeq (sFldS "Train" "lift" (eVar 0) (eVar 4))
  (sFldS "Train" "drive" (eVar 0) (eVar 5))))))))))
/-! _law_train -/
def m_l_train : List P → Rp := runP 1 (sRet (eCall 5 m_Train_init (aCons (eBin ixW (eVar 0) (eCst (.int 0))) (aCons (eBin ixW (eVar 0) (eCst (.int 1))) (aCons (eBin ixW (eVar 0) (eCst (.int 2))) (aCons (eBin ixW (eVar 0) (eCst (.int 3))) (aCons (eBin ixW (eVar 0) (eCst (.int 4))) aNil)))))))
/-! _law_first_of -/
def m_l_first_of : List P → Rp := runP 3 (sRet (eBin ixW (eLc (iRange1 (aCons (eCB lenW (aCons (eVar 0) aNil)) aNil)) [2] (.nm 2) (tstB (eBin (eqW false) (eBin ixW (eBin ixW (eVar 0) (eVar 2)) (eCst (.int 2))) (eVar 1))) (eVar 2)) (eCst (.int 0))))
/-! _law_brake_of -/
def m_l_brake_of : List P → Rp := runP 3 (sRet (eBin ixW (eLc (iRange1 (aCons (eCB lenW (aCons (eVar 0) aNil)) aNil)) [2] (.nm 2) (tAndB (tstB (eBin (eqW false) (eBin ixW (eBin ixW (eVar 0) (eVar 2)) (eCst (.int 2))) (eVar 1))) (tstB (eBin (eqW false) (eBin ixW (eBin ixW (eVar 0) (eVar 2)) (eCst (.int 0))) (eCst (.str "brake"))))) (eVar 2)) (eCst (.int 0))))
/-! _law_after -/
def m_l_after : List P → Rp := runP 9 (sSeq (sAsgT (.tp [(.nm 5), (.nm 6), (.nm 7)]) (eVar 0))
  (sSeq (sAsg 8 (eBin subW (eBin subW (eVar 2) (eBin mulW (eCst (.int 1962)) (eVar 6))) (eVar 3)))
  (sSeq (sIf (tstB (eBin (eqW false) (eVar 5) (eCst (.str "lift")))) (sRet (eCB max2W (aCons (eBin ixW (eVar 1) (eCst (.int 3))) (aCons (eVar 8) aNil)))) sSkip)
  (sSeq (sIf (tAndB (tstB (eBin (eqW false) (eVar 5) (eCst (.str "brake")))) (tstB (eBin (isW false) (eVar 4) (eCst .non)))) (sRet (eCB max2W (aCons (eBin ixW (eVar 1) (eCst (.int 4))) (aCons (eVar 8) aNil)))) sSkip)
  (sSeq (sIf (tstB (eBin (eqW false) (eVar 5) (eCst (.str "brake")))) (sAsg 8 (eBin subW (eVar 8) (eVar 4))) sSkip)
  (sSeq (sIf (tstB (eBin (eqW false) (eVar 2) (eCst (.int 0)))) (sRet (eCst (.int 0))) sSkip)
  (sRet (eCB max2W (aCons (eCst (.int 0)) (aCons (eVar 8) aNil))))))))))
/-! _law_least -/
def m_l_least_b1 : FS := (sSeq (sIf (tOrB (tstB (eBin (eqW false) (eVar 4) (eCst (.int 0)))) (tstB (eBin (eqW true) (eBin ixW (eBin ixW (eVar 0) (eVar 4)) (eCst (.int 2))) (eBin ixW (eBin ixW (eVar 0) (eBin subW (eVar 4) (eCst (.int 1)))) (eCst (.int 2)))))) (sAsg 3 (eBin ixW (eVar 1) (eCst (.int 4)))) sSkip)
  (sSeq (sExpr (eBM "list" appendW (eVar 2) (aCons (eVar 3) aNil)))
  (sAsg 3 (eCall 5 m_l_after (aCons (eBin ixW (eVar 0) (eVar 4)) (aCons (eVar 1) (aCons (eVar 3) (aCons (eBin ixW (eBin ixW (eVar 1) (eCst (.int 1))) (eCst (.int 1))) (aCons (eCst .non) aNil)))))))))
def m_l_least : List P → Rp := runP 5 (sSeq (sAsg 2 (eLst aNil))
  (sSeq (sAsg 3 (eBin ixW (eVar 1) (eCst (.int 4))))
  (sSeq (sFor (iRange1 (aCons (eCB lenW (aCons (eVar 0) aNil)) aNil)) (.nm 4) m_l_least_b1)
  (sRet (eVar 2)))))
/-! _law_greatest -/
def m_l_greatest_b1 : FS := (sSeq (sExpr (eBM "list" appendW (eVar 4) (aCons (eVar 2) aNil)))
  (sAsg 2 (eCall 5 m_l_after (aCons (eVar 5) (aCons (eVar 1) (aCons (eVar 2) (aCons (eBin ixW (eBin ixW (eVar 1) (eCst (.int 1))) (eCst (.int 0))) (aCons (eCst .non) aNil))))))))
def m_l_greatest_b2 : FS := (sSeq (sAsg 4 (eLst aNil))
  (sFor (iSeq (eVar 0)) (.nm 5) m_l_greatest_b1))
def m_l_greatest : List P → Rp := runP 6 (sSeq (sAsg 2 (eBin ixW (eVar 1) (eCst (.int 4))))
  (sSeq (sFor (iRange1 (aCons (eCst (.int 2)) aNil)) (.nm 3) m_l_greatest_b2)
  (sRet (eVar 4))))
/-! _law_root -/
def m_l_root_b1 : FS := (sIf (tstB (eBin gtW (eBin subW (eVar 2) (eVar 1)) (eCst (.int 1)))) (sSeq (sAsg 4 (eBin fdivW (eBin addW (eVar 1) (eVar 2)) (eCst (.int 2))))
  (sIf (tstB (eBin leW (eBin mulW (eVar 4) (eVar 4)) (eVar 0))) (sAsg 1 (eVar 4)) (sAsg 2 (eVar 4)))) sSkip)
def m_l_root : List P → Rp := runP 5 (sSeq (sAsg 1 (eCst (.int 0)))
  (sSeq (sAsg 2 (eBin addW (eVar 0) (eCst (.int 1))))
  (sSeq (sFor (iRange1 (aCons (eCst (.int 200)) aNil)) (.nm 3) m_l_root_b1)
  (sRet (eVar 1)))))
/-! _law_times -/
def m_l_times : List P → Rp := runP 4 (sSeq (sAsg 2 (eCall 1 m_l_root (aCons (eVar 1) aNil)))
  (sSeq (sIf (tstB (eBin ltW (eBin mulW (eVar 2) (eVar 2)) (eVar 1))) (sAsg 2 (eBin addW (eVar 2) (eCst (.int 1)))) sSkip)
  (sSeq (sAsg 3 (eCall 1 m_l_root (aCons (eVar 0) aNil)))
  (sRet (eTup (aCons (eBin fdivW (eCst (.int 100000000)) (eVar 2)) (aCons (eBin fdivW (eBin subW (eBin addW (eCst (.int 100000000)) (eVar 3)) (eCst (.int 1))) (eVar 3)) aNil)))))))
/-! _law_sum_times -/
def m_l_sum_times_b1 : FS := (sSeq (sAsgT (.tp [(.nm 10), (.nm 11)]) (eCall 2 m_l_times (aCons (eCB min2W (aCons (eBin ixW (eVar 5) (eVar 9)) (aCons (eBin ixW (eVar 5) (eBin addW (eVar 9) (eCst (.int 1)))) aNil))) (aCons (eCB max2W (aCons (eBin ixW (eVar 6) (eVar 9)) (aCons (eBin ixW (eVar 6) (eBin addW (eVar 9) (eCst (.int 1)))) aNil))) aNil))))
  (sSeq (sAsg 7 (eBin addW (eVar 7) (eVar 10)))
  (sAsg 8 (eBin addW (eVar 8) (eVar 11)))))
def m_l_sum_times : List P → Rp := runP 12 (sSeq (sAsg 5 (eCall 2 m_l_least (aCons (eVar 0) (aCons (eVar 1) aNil))))
  (sSeq (sAsg 6 (eCall 2 m_l_greatest (aCons (eVar 0) (aCons (eVar 1) aNil))))
  (sSeq (sIf (tstB (eBin (inW false) (eCst (.int 0)) (eSl (eVar 5) (pSome (eCall 2 m_l_first_of (aCons (eVar 0) (aCons (eVar 2) aNil)))) (pSome (eBin addW (eCall 2 m_l_brake_of (aCons (eVar 0) (aCons (eVar 2) aNil))) (eCst (.int 1))))))) (sRet (eCst .non)) sSkip)
  (sSeq (sAsg 7 (eCst (.int 0)))
  (sSeq (sAsg 8 (eCst (.int 0)))
  (sSeq (sFor (iRange2 (aCons (eVar 3) (aCons (eVar 4) aNil))) (.nm 9) m_l_sum_times_b1)
  (sRet (eTup (aCons (eVar 7) (aCons (eVar 8) aNil))))))))))
/-! _law_like -/
def m_l_like : Nat → List P → Rp
  | 0 => fun _ => .bad
  | j + 1 => runP 3 (sSeq (sIf (tstB (eBin (isW false) (eVar 1) (eCst .non))) (sRet (eBin (isW false) (eVar 0) (eCst .non))) sSkip)
  (sSeq (sIf (tstB (eUn (isiW "bool") (eVar 1))) (sRet (eAnd (eUn (isiW "bool") (eVar 0)) (eBin (eqW false) (eVar 0) (eVar 1)))) sSkip)
  (sSeq (sIf (tstB (eUn (isiW "str") (eVar 1))) (sRet (eAnd (eUn (isiW "str") (eVar 0)) (eBin (eqW false) (eVar 0) (eVar 1)))) sSkip)
  (sSeq (sIf (tstB (eUn (isiW "int") (eVar 1))) (sRet (eAnd (eUn (isiW "int") (eVar 0)) (eAnd (eNot (eUn (isiW "bool") (eVar 0))) (eBin (eqW false) (eVar 0) (eVar 1))))) sSkip)
  (sSeq (sIf (tOrB (tstB (eBin (eqW true) (eUn (isiW "list") (eVar 1)) (eUn (isiW "list") (eVar 0)))) (tstB (eBin (eqW true) (eUn (isiW "tuple") (eVar 1)) (eUn (isiW "tuple") (eVar 0))))) (sRet (eCst (.bl false))) sSkip)
  (sSeq (sIf (tstB (eBin (eqW true) (eCB lenW (aCons (eVar 0) aNil)) (eCB lenW (aCons (eVar 1) aNil)))) (sRet (eCst (.bl false))) sSkip)
  (sRet (eCB (allW true) (aCons (eLc (iRange1 (aCons (eCB lenW (aCons (eVar 1) aNil)) aNil)) [2] (.nm 2) cYes (eCall 2 (m_l_like j) (aCons (eBin ixW (eVar 0) (eVar 2)) (aCons (eBin ixW (eVar 1) (eVar 2)) aNil)))) aNil)))))))))
/-! Layout.check_block -/
def m_Layout_check_block : List P → Rp := runP 2 (sIf (tNotB (tstB (eChain leW ltW (eCst (.int 0)) (eVar 1) (eCB lenW (aCons (eFld "Layout" "brakes" (eVar 0)) aNil))))) (sRaise "BadNumber") sSkip)
/-! Layout.begin -/
def m_Layout_begin : List P → Rp := runP 2 (sSeq (sExpr (eMeth "Layout" "check_block" 2 m_Layout_check_block (eVar 0) (aCons (eVar 1) aNil)))
  (sRet (eBin ixW (eFld "Layout" "begins" (eVar 0)) (eVar 1))))
/-! Layout.brake -/
def m_Layout_brake : List P → Rp := runP 2 (sSeq (sExpr (eMeth "Layout" "check_block" 2 m_Layout_check_block (eVar 0) (aCons (eVar 1) aNil)))
  (sRet (eBin ixW (eFld "Layout" "brakes" (eVar 0)) (eVar 1))))
/-! Layout.blocks -/
def m_Layout_blocks : List P → Rp := runP 1 (sRet (eCB lenW (aCons (eFld "Layout" "brakes" (eVar 0)) aNil)))
/-! Layout.end -/
def m_Layout_end : List P → Rp := runP 2 (sSeq (sExpr (eMeth "Layout" "check_block" 2 m_Layout_check_block (eVar 0) (aCons (eVar 1) aNil)))
  (sRet (eBin ixW (eFld "Layout" "begins" (eVar 0)) (eBin addW (eVar 1) (eCst (.int 1))))))
/-! Layout.check_metre -/
def m_Layout_check_metre : List P → Rp := runP 2 (sIf (tNotB (tstB (eChain leW ltW (eCst (.int 0)) (eVar 1) (eCB lenW (aCons (eFld "Layout" "metres" (eVar 0)) aNil))))) (sRaise "BadNumber") sSkip)
/-! check_energy -/
def m_check_energy : List P → Rp := runP 3 (sSeq (sExpr (eMeth "Layout" "check_metre" 2 m_Layout_check_metre (eVar 0) (aCons (eVar 1) aNil)))
  (sIf (tstB (eBin ltW (eVar 2) (eCst (.int 0)))) (sRaise "BadNumber") sSkip))
/-! Layout.metre -/
def m_Layout_metre : List P → Rp := runP 2 (sSeq (sExpr (eMeth "Layout" "check_metre" 2 m_Layout_check_metre (eVar 0) (aCons (eVar 1) aNil)))
  (sRet (eBin ixW (eFld "Layout" "metres" (eVar 0)) (eVar 1))))
/-! after_metre -/
def m_after_metre : List P → Rp := runP 10 (sSeq (sExpr (eCall 3 m_check_energy (aCons (eVar 0) (aCons (eVar 2) (aCons (eVar 3) aNil)))))
  (sSeq (sAsgT (.tp [(.nm 6), (.nm 7), (.nm 8)]) (eMeth "Layout" "metre" 2 m_Layout_metre (eVar 0) (aCons (eVar 2) aNil)))
  (sSeq (sAsg 9 (eBin subW (eBin subW (eVar 3) (eBin mulW (eCst (.int 1962)) (eVar 7))) (eVar 4)))
  (sSeq (sIf (tstB (eBin (eqW false) (eVar 6) (eCst (.str "lift")))) (sRet (eCB max2W (aCons (eFld "Train" "lift" (eVar 1)) (aCons (eVar 9) aNil)))) sSkip)
  (sSeq (sIf (tAndB (tstB (eBin (eqW false) (eVar 6) (eCst (.str "brake")))) (tstB (eBin (isW false) (eVar 5) (eCst .non)))) (sRet (eCB max2W (aCons (eFld "Train" "drive" (eVar 1)) (aCons (eVar 9) aNil)))) sSkip)
  (sSeq (sIf (tstB (eBin (eqW false) (eVar 6) (eCst (.str "brake")))) (sAug 9 subW (eVar 5)) sSkip)
  (sRet (eIf (tstB (eBin gtW (eVar 3) (eCst (.int 0)))) (eCB max2W (aCons (eCst (.int 0)) (aCons (eVar 9) aNil))) (eCst (.int 0))))))))))
/-! Layout.total -/
def m_Layout_total : List P → Rp := runP 1 (sRet (eCB lenW (aCons (eFld "Layout" "metres" (eVar 0)) aNil)))
/-! roll -/
def m_roll_b1 : FS := (sSeq (sAsg 3 (eCall 6 m_after_metre (aCons (eVar 0) (aCons (eVar 1) (aCons (eVar 2) (aCons (eVar 3) (aCons (eVar 7) (aCons (eVar 8) aNil))))))))
  (sSeq (sExpr (eBM "list" appendW (eVar 6) (aCons (eVar 3) aNil)))
  (sAsg 2 (eBin modW (eBin addW (eVar 2) (eCst (.int 1))) (eMeth "Layout" "total" 1 m_Layout_total (eVar 0) aNil)))))
def m_roll : List P → Rp := runP 9 (sSeq (sExpr (eCall 3 m_check_energy (aCons (eVar 0) (aCons (eVar 2) (aCons (eVar 3) aNil)))))
  (sSeq (sIf (tstB (eBin (eqW true) (eCB lenW (aCons (eVar 4) aNil)) (eCB lenW (aCons (eVar 5) aNil)))) (sRaise "NotFitting") sSkip)
  (sSeq (sAsg 6 (eLst aNil))
  (sSeq (sFor (iZip (aCons (eVar 4) (aCons (eVar 5) aNil))) (.tp [(.nm 7), (.nm 8)]) m_roll_b1)
  (sRet (eVar 6))))))
/-! least_energies -/
def m_least_energies_b1 : FS := (sSeq (sAsg 4 (eBin subW (eMeth "Layout" "end" 2 m_Layout_end (eVar 0) (aCons (eVar 3) aNil)) (eMeth "Layout" "begin" 2 m_Layout_begin (eVar 0) (aCons (eVar 3) aNil))))
  (sSeq (sExpr (eBM "list" appendW (eVar 2) (aCons (eFld "Train" "drive" (eVar 1)) aNil)))
  (sSeq (sAsg 5 (eBin mulW (eLstP (aCons (eBin ixW (eFld "Train" "friction" (eVar 1)) (eCst (.int 1))) aNil)) (eVar 4)))
  (sExpr (eBM "list" extendW (eVar 2) (aCons (eSl (eCall 6 m_roll (aCons (eVar 0) (aCons (eVar 1) (aCons (eMeth "Layout" "begin" 2 m_Layout_begin (eVar 0) (aCons (eVar 3) aNil)) (aCons (eFld "Train" "drive" (eVar 1)) (aCons (eVar 5) (aCons (eBin mulW (eLstP (aCons (eCst .non) aNil)) (eVar 4)) aNil))))))) pNone (pSome (eUn negW (eCst (.int 1))))) aNil))))))
def m_least_energies : List P → Rp := runP 6 (sSeq (sAsg 2 (eLst aNil))
  (sSeq (sFor (iRange1 (aCons (eMeth "Layout" "blocks" 1 m_Layout_blocks (eVar 0) aNil) aNil)) (.nm 3) m_least_energies_b1)
  (sRet (eVar 2))))
/-! greatest_energies -/
def m_greatest_energies : List P → Rp := runP 5 (sSeq (sAsg 2 (eMeth "Layout" "total" 1 m_Layout_total (eVar 0) aNil))
  (sSeq (sAsg 3 (eBin mulW (eLstP (aCons (eBin ixW (eFld "Train" "friction" (eVar 1)) (eCst (.int 0))) aNil)) (eVar 2)))
  (sSeq (sAsg 4 (eBin ixW (eCall 6 m_roll (aCons (eVar 0) (aCons (eVar 1) (aCons (eCst (.int 0)) (aCons (eFld "Train" "drive" (eVar 1)) (aCons (eVar 3) (aCons (eBin mulW (eLstP (aCons (eCst .non) aNil)) (eVar 2)) aNil))))))) (eUn negW (eCst (.int 1)))))
  (sRet (eBin addW (eLstP (aCons (eVar 4) aNil)) (eSl (eCall 6 m_roll (aCons (eVar 0) (aCons (eVar 1) (aCons (eCst (.int 0)) (aCons (eVar 4) (aCons (eVar 3) (aCons (eBin mulW (eLstP (aCons (eCst .non) aNil)) (eVar 2)) aNil))))))) pNone (pSome (eUn negW (eCst (.int 1))))))))))
/-! added -/
def m_added : List P → Rp := runP 2 (sRet (eTup (aCons (eBin addW (eBin ixW (eVar 0) (eCst (.int 0))) (eBin ixW (eVar 1) (eCst (.int 0)))) (aCons (eBin addW (eBin ixW (eVar 0) (eCst (.int 1))) (eBin ixW (eVar 1) (eCst (.int 1)))) aNil))))
/-! check_divisor -/
def m_check_divisor : List P → Rp := runP 1 (sIf (tstB (eBin ltW (eVar 0) (eCst (.int 1)))) (sRaise "BadNumber") sSkip)
/-! divided_up -/
def m_divided_up : List P → Rp := runP 2 (sSeq (sExpr (eCall 1 m_check_divisor (aCons (eVar 1) aNil)))
  (sRet (eUn negW (eBin fdivW (eUn negW (eVar 0)) (eVar 1)))))
/-! root_down -/
def m_root_down_b1 : FS := (sSeq (sAsg 3 (eBin fdivW (eBin addW (eVar 1) (eVar 2)) (eCst (.int 2))))
  (sIf (tstB (eBin leW (eBin mulW (eVar 3) (eVar 3)) (eVar 0))) (sAsg 1 (eVar 3)) (sAsg 2 (eVar 3))))
def m_root_down : List P → Rp := runP 4 (sSeq (sIf (tstB (eBin ltW (eVar 0) (eCst (.int 0)))) (sRaise "BadNumber") sSkip)
  (sSeq (sAsg 1 (eCst (.int 0)))
  (sSeq (sAsg 2 (eBin shlW (eCst (.int 1)) (eBin addW (eBin fdivW (eUn bitsW (eVar 0)) (eCst (.int 2))) (eCst (.int 1)))))
  (sSeq (sWhile (tstB (eBin gtW (eBin subW (eVar 2) (eVar 1)) (eCst (.int 1)))) m_root_down_b1)
  (sRet (eVar 1))))))
/-! divided_down -/
def m_divided_down : List P → Rp := runP 2 (sSeq (sExpr (eCall 1 m_check_divisor (aCons (eVar 1) aNil)))
  (sRet (eBin fdivW (eVar 0) (eVar 1))))
/-! root_up -/
def m_root_up : List P → Rp := runP 2 (sSeq (sAsg 1 (eCall 1 m_root_down (aCons (eVar 0) aNil)))
  (sRet (eIf (tstB (eBin (eqW false) (eBin mulW (eVar 1) (eVar 1)) (eVar 0))) (eVar 1) (eBin addW (eVar 1) (eCst (.int 1))))))
/-! metre_times -/
def m_metre_times : List P → Rp := runP 2 (sSeq (sIf (tNotB (tstB (eChain leW leW (eCst (.int 1)) (eVar 0) (eVar 1)))) (sRaise "BadNumber") sSkip)
  (sRet (eTup (aCons (eCall 2 m_divided_down (aCons (eCst (.int 100000000)) (aCons (eCall 1 m_root_up (aCons (eVar 1) aNil)) aNil))) (aCons (eCall 2 m_divided_up (aCons (eCst (.int 100000000)) (aCons (eCall 1 m_root_down (aCons (eVar 0) aNil)) aNil))) aNil)))))
/-! times_between -/
def m_times_between_b1 : FS := (sSeq (sAsg 9 (eCB min2W (aCons (eBin ixW (eVar 5) (eVar 8)) (aCons (eBin ixW (eVar 5) (eBin addW (eVar 8) (eCst (.int 1)))) aNil))))
  (sAsg 7 (eCall 2 m_added (aCons (eVar 7) (aCons (eCall 2 m_metre_times (aCons (eVar 9) (aCons (eCB max2W (aCons (eBin ixW (eVar 6) (eVar 8)) (aCons (eBin ixW (eVar 6) (eBin addW (eVar 8) (eCst (.int 1)))) aNil))) aNil))) aNil)))))
def m_times_between : List P → Rp := runP 10 (sSeq (sAsg 5 (eCall 2 m_least_energies (aCons (eVar 0) (aCons (eVar 1) aNil))))
  (sSeq (sAsg 6 (eCall 2 m_greatest_energies (aCons (eVar 0) (aCons (eVar 1) aNil))))
  (sSeq (sIf (tstB (eBin (eqW false) (eCB minW (aCons (eSl (eVar 5) (pSome (eMeth "Layout" "begin" 2 m_Layout_begin (eVar 0) (aCons (eVar 2) aNil))) (pSome (eBin addW (eMeth "Layout" "brake" 2 m_Layout_brake (eVar 0) (aCons (eVar 2) aNil)) (eCst (.int 1))))) aNil)) (eCst (.int 0)))) (sRet (eCst .non)) sSkip)
  (sSeq (sAsg 7 (eTup (aCons (eCst (.int 0)) (aCons (eCst (.int 0)) aNil))))
  (sSeq (sFor (iRange2 (aCons (eVar 3) (aCons (eVar 4) aNil))) (.nm 8) m_times_between_b1)
  (sRet (eVar 7)))))))
/-! passage_times -/
def m_passage_times : List P → Rp := runP 4 (sSeq (sAsg 3 (eMeth "Layout" "begin" 2 m_Layout_begin (eVar 0) (aCons (eVar 2) aNil)))
  (sSeq (sIf (tstB (eBin ltW (eBin subW (eMeth "Layout" "brake" 2 m_Layout_brake (eVar 0) (aCons (eVar 2) aNil)) (eVar 3)) (eFld "Train" "length" (eVar 1)))) (sRaise "NotFitting") sSkip)
  (sRet (eCall 5 m_times_between (aCons (eVar 0) (aCons (eVar 1) (aCons (eVar 2) (aCons (eVar 3) (aCons (eBin addW (eVar 3) (eFld "Train" "length" (eVar 1))) aNil)))))))))
/-! _law_passage -/
def m_l_passage : List P → Rp := runP 3 (sTry exmT (sRet (eCall 3 m_passage_times (aCons (eVar 0) (aCons (eVar 1) (aCons (eVar 2) aNil))))) [("NotFitting", (sRet (eCst (.str "fit")))), ("BadNumber", (sRet (eCst (.str "number"))))])
/-! _law_equal -/
def m_l_equal : Nat → List P → Rp
  | 0 => fun _ => .bad
  | j + 1 => runP 4 (sSeq (sIf (tOrB (tstB (eBin (eqW true) (eUn (isiW "bool") (eVar 0)) (eUn (isiW "bool") (eVar 1)))) (tOrB (tstB (eBin (eqW true) (eUn (isiW "int") (eVar 0)) (eUn (isiW "int") (eVar 1)))) (tstB (eBin (eqW true) (eUn (isiW "str") (eVar 0)) (eUn (isiW "str") (eVar 1)))))) (sRet (eCst (.bl false))) sSkip)
  (sSeq (sIf (tOrB (tstB (eBin (eqW true) (eUn (isiW "list") (eVar 0)) (eUn (isiW "list") (eVar 1)))) (tOrB (tstB (eBin (eqW true) (eUn (isiW "tuple") (eVar 0)) (eUn (isiW "tuple") (eVar 1)))) (tstB (eBin (eqW true) (eUn (isiW "dict") (eVar 0)) (eUn (isiW "dict") (eVar 1)))))) (sRet (eCst (.bl false))) sSkip)
  (sSeq (sIf (tOrB (tstB (eUn (isiW "list") (eVar 1))) (tstB (eUn (isiW "tuple") (eVar 1)))) (sRet (eAnd (eBin (eqW false) (eCB lenW (aCons (eVar 0) aNil)) (eCB lenW (aCons (eVar 1) aNil))) (eCB (allW true) (aCons (eLc (iRange1 (aCons (eCB lenW (aCons (eVar 1) aNil)) aNil)) [2] (.nm 2) cYes (eCall 2 (m_l_equal j) (aCons (eBin ixW (eVar 0) (eVar 2)) (aCons (eBin ixW (eVar 1) (eVar 2)) aNil)))) aNil)))) sSkip)
  (sSeq (sIf (tstB (eUn (isiW "dict") (eVar 1))) (sRet (eAnd (eBin (eqW false) (eCB lenW (aCons (eVar 0) aNil)) (eCB lenW (aCons (eVar 1) aNil))) (eCB (allW true) (aCons (eLc (iSeq (eVar 1)) [3] (.nm 3) cYes (eAnd (eBin (inW false) (eVar 3) (eVar 0)) (eCall 2 (m_l_equal j) (aCons (eBin ixW (eVar 0) (eVar 3)) (aCons (eBin ixW (eVar 1) (eVar 3)) aNil))))) aNil)))) sSkip)
  (sRet (eBin (isW false) (eBin (eqW false) (eVar 0) (eVar 1)) (eCst (.bl true))))))))
/-! envelope_before -/
def m_envelope_before : List P → Rp := runP 8 (sSeq (sAsgT (.tp [(.nm 4), (.nm 5), (.nm 6)]) (eMeth "Layout" "metre" 2 m_Layout_metre (eVar 0) (aCons (eVar 2) aNil)))
  (sSeq (sAsg 7 (eBin addW (eBin mulW (eCst (.int 1962)) (eVar 5)) (eBin ixW (eFld "Train" "friction" (eVar 1)) (eCst (.int 0)))))
  (sSeq (sIf (tstB (eBin (eqW false) (eVar 4) (eCst (.str "lift")))) (sRet (eIf (tAndB (tstB (eBin leW (eFld "Train" "lift" (eVar 1)) (eVar 3))) (tstB (eBin geW (eBin addW (eVar 3) (eVar 7)) (eCst (.int 0))))) (eBin addW (eVar 3) (eVar 7)) (eUn negW (eCst (.int 1))))) sSkip)
  (sSeq (sIf (tstB (eBin (eqW false) (eVar 4) (eCst (.str "brake")))) (sAug 7 iaddW (eBin ixW (eFld "Train" "brake" (eVar 1)) (eCst (.int 0)))) sSkip)
  (sRet (eCB max2W (aCons (eCst (.int 0)) (aCons (eBin addW (eCB max2W (aCons (eCst (.int 0)) (aCons (eVar 3) aNil))) (eVar 7)) aNil))))))))
/-! envelope -/
def m_envelope_b1 : FS := (sSeq (sAsg 5 (eCall 4 m_envelope_before (aCons (eVar 0) (aCons (eVar 1) (aCons (eVar 6) (aCons (eVar 5) aNil))))))
  (sExpr (eBM "list" appendW (eVar 4) (aCons (eVar 5) aNil))))
def m_envelope_b2 : FS := (sSeq (sAsg 4 (eLst aNil))
  (sSeq (sAsg 5 (eCst (.int 0)))
  (sSeq (sFor (iRangeD (aCons (eBin subW (eMeth "Layout" "end" 2 m_Layout_end (eVar 0) (aCons (eVar 3) aNil)) (eCst (.int 1))) (aCons (eBin subW (eMeth "Layout" "begin" 2 m_Layout_begin (eVar 0) (aCons (eVar 3) aNil)) (eCst (.int 1))) (aCons (eUn negW (eCst (.int 1))) aNil)))) (.nm 6) m_envelope_b1)
  (sExpr (eBM "list" extendW (eVar 2) (aCons (eUn revW (eVar 4)) aNil))))))
def m_envelope : List P → Rp := runP 7 (sSeq (sAsg 2 (eLst aNil))
  (sSeq (sFor (iRange1 (aCons (eMeth "Layout" "blocks" 1 m_Layout_blocks (eVar 0) aNil) aNil)) (.nm 3) m_envelope_b2)
  (sRet (eVar 2))))
/-! faults -/
def m_faults_b1 : FS := (sSeq (sAsg 7 (eMeth "Layout" "begin" 2 m_Layout_begin (eVar 0) (aCons (eVar 6) aNil)))
  (sSeq (sAsg 8 (eMeth "Layout" "brake" 2 m_Layout_brake (eVar 0) (aCons (eVar 6) aNil)))
  (sSeq (sIf (tstB (eBin ltW (eBin subW (eVar 8) (eVar 7)) (eFld "Train" "length" (eVar 1)))) (sExpr (eBM "list" appendW (eVar 5) (aCons (eTup (aCons (eCst (.str "short")) (aCons (eVar 6) aNil))) aNil))) sSkip)
  (sSeq (sIf (tstB (eBin (eqW false) (eCB minW (aCons (eSl (eVar 3) (pSome (eVar 7)) (pSome (eBin addW (eVar 8) (eCst (.int 1))))) aNil)) (eCst (.int 0)))) (sExpr (eBM "list" appendW (eVar 5) (aCons (eTup (aCons (eCst (.str "stall")) (aCons (eVar 6) aNil))) aNil))) sSkip)
  (sIf (tstB (eBin gtW (eBin ixW (eVar 4) (eVar 8)) (eBin ixW (eVar 2) (eVar 8)))) (sExpr (eBM "list" appendW (eVar 5) (aCons (eTup (aCons (eCst (.str "fast")) (aCons (eVar 6) aNil))) aNil))) sSkip)))))
def m_faults : List P → Rp := runP 9 (sSeq (sAsg 2 (eCall 2 m_envelope (aCons (eVar 0) (aCons (eVar 1) aNil))))
  (sSeq (sAsg 3 (eCall 2 m_least_energies (aCons (eVar 0) (aCons (eVar 1) aNil))))
  (sSeq (sAsg 4 (eCall 2 m_greatest_energies (aCons (eVar 0) (aCons (eVar 1) aNil))))
  (sSeq (sAsg 5 (eLst aNil))
  (sSeq (sFor (iRange1 (aCons (eMeth "Layout" "blocks" 1 m_Layout_blocks (eVar 0) aNil) aNil)) (.nm 6) m_faults_b1)
  (sRet (eVar 5)))))))
/-! Ride.__init__ -/
def m_Ride_init : List P → Rp := runI "Ride" 7 (sSeq (sIf (tOrB (tNotB (tstB (eChain leW leW (eCst (.int 2)) (eCB lenW (aCons (eVar 1) aNil)) (eCst (.int 12))))) (tNotB (tstB (eAG false (iSeq (eVar 1)) [4, 5] (.tp [(.nm 4), (.nm 5)]) (eChain3 leW leW leW (eCst (.int 1)) (eVar 4) (eVar 5) (eCst (.int 99))))))) (sRaise "InvalidRide") sSkip)
  (sSeq (sIf (tNotB (tstB (eChain leW leW (eCst (.int 1)) (eVar 2) (eCst (.int 20))))) (sRaise "InvalidRide") sSkip)
  (sSeq (sIf (tOrB (tNotB (tstB (eChain leW ltW (eCst (.int 1)) (eCB lenW (aCons (eVar 3) aNil)) (eCB lenW (aCons (eVar 1) aNil))))) (tstB (eBin (eqW true) (eUn setLenW (eVar 3)) (eCB lenW (aCons (eVar 3) aNil))))) (sRaise "InvalidRide") sSkip)
  (sSeq (sIf (tNotB (tstB (eAG false (iSeq (eVar 3)) [6] (.nm 6) (eChain leW ltW (eCst (.int 0)) (eVar 6) (eCB lenW (aCons (eVar 1) aNil)))))) (sRaise "InvalidRide") sSkip)
  (sSeq (sFldS "Ride" "ways" (eVar 0) (eCB tupleW (aCons (eVar 1) aNil)))
  (sSeq (sFldS "Ride" "over" (eVar 0) (eVar 2))
  (sFldS "Ride" "trains" (eVar 0) (eCB tupleW (aCons (eVar 3) aNil)))))))))
/-! ride_of -/
def m_ride_of_b1 : FS := (sSeq (sAsg 7 (eBin addW (eMeth "Layout" "begin" 2 m_Layout_begin (eVar 0) (aCons (eVar 6) aNil)) (eFld "Train" "length" (eVar 1))))
  (sSeq (sAsgT (.tp [(.nm 8), (.nm 9)]) (eCall 5 m_times_between (aCons (eVar 0) (aCons (eVar 1) (aCons (eVar 6) (aCons (eVar 7) (aCons (eMeth "Layout" "brake" 2 m_Layout_brake (eVar 0) (aCons (eVar 6) aNil)) aNil)))))))
  (sSeq (sExpr (eBM "list" appendW (eVar 4) (aCons (eTup (aCons (eCB max2W (aCons (eCst (.int 1)) (aCons (eBin fdivW (eVar 8) (eVar 2)) aNil))) (aCons (eBin addW (eBin fdivW (eVar 9) (eVar 2)) (eCst (.int 1))) aNil))) aNil)))
  (sSeq (sAsgT (.tp [(.nm 8), (.nm 9)]) (eCall 3 m_passage_times (aCons (eVar 0) (aCons (eVar 1) (aCons (eVar 6) aNil)))))
  (sSeq (sIf (tstB (eBin ltW (eVar 8) (eVar 2))) (sRaise "NotFitting") sSkip)
  (sAsg 5 (eCB max2W (aCons (eVar 5) (aCons (eBin addW (eBin fdivW (eVar 9) (eVar 2)) (eCst (.int 1))) aNil)))))))))
def m_ride_of : List P → Rp := runP 12 (sSeq (sIf (tNotB (tstB (eChain leW leW (eCst (.int 1000)) (eVar 2) (eCst (.int 10000000))))) (sRaise "BadNumber") sSkip)
  (sSeq (sIf (tstB (eBin gtW (eCB lenW (aCons (eCall 2 m_faults (aCons (eVar 0) (aCons (eVar 1) aNil))) aNil)) (eCst (.int 0)))) (sRaise "NotFitting") sSkip)
  (sSeq (sAsg 4 (eLst aNil))
  (sSeq (sAsg 5 (eCst (.int 1)))
  (sSeq (sFor (iRange1 (aCons (eMeth "Layout" "blocks" 1 m_Layout_blocks (eVar 0) aNil) aNil)) (.nm 6) m_ride_of_b1)
  (sSeq (sIf (tOrB (tstB (eBin gtW (eVar 5) (eCst (.int 20)))) (tstB (eBin gtW (eCB maxW (aCons (eLc (iSeq (eVar 4)) [10, 11] (.tp [(.nm 10), (.nm 11)]) cYes (eVar 11)) aNil)) (eCst (.int 99))))) (sRaise "NotFitting") sSkip)
  (sRet (eCall 3 m_Ride_init (aCons (eVar 4) (aCons (eVar 5) (aCons (eVar 3) aNil)))))))))))
/-! _law_told -/
def m_l_told : List P → Rp := runP 7 (sSeq (sAsg 4 (eLc (iSeq (eVar 3)) [5] (.nm 5) cYes (eVar 5)))
  (sSeq (sTry exmT (sSeq (sAsg 6 (eCall 4 m_ride_of (aCons (eVar 0) (aCons (eVar 1) (aCons (eVar 2) (aCons (eVar 3) aNil))))))
  (sIf (tstB (eBin (eqW true) (eLc (iSeq (eVar 3)) [5] (.nm 5) cYes (eVar 5)) (eVar 4))) (sRet (eCst (.str "changed"))) sSkip)) [("BadNumber", (sRet (eCst (.str "number")))), ("NotFitting", (sRet (eCst (.str "fit")))), ("InvalidRide", (sRet (eCst (.str "ride"))))])
  (sRet (eTup (aCons (eFld "Ride" "ways" (eVar 6)) (aCons (eFld "Ride" "over" (eVar 6)) (aCons (eFld "Ride" "trains" (eVar 6)) aNil)))))))
/-! _law_envelope -/
def m_l_envelope_b1 : FS := (sSeq (sAsgT (.tp [(.nm 5), (.nm 6), (.nm 7)]) (eBin ixW (eVar 0) (eVar 4)))
  (sSeq (sIf (tOrB (tstB (eBin (eqW false) (eVar 4) (eBin subW (eCB lenW (aCons (eVar 0) aNil)) (eCst (.int 1))))) (tstB (eBin (eqW true) (eBin ixW (eBin ixW (eVar 0) (eBin addW (eVar 4) (eCst (.int 1)))) (eCst (.int 2))) (eVar 7)))) (sAsg 3 (eCst (.int 0))) sSkip)
  (sSeq (sAsg 8 (eBin addW (eBin mulW (eCst (.int 1962)) (eVar 6)) (eBin ixW (eBin ixW (eVar 1) (eCst (.int 1))) (eCst (.int 0)))))
  (sSeq (sIf (tstB (eBin (eqW false) (eVar 5) (eCst (.str "lift")))) (sIf (tAndB (tstB (eBin leW (eBin ixW (eVar 1) (eCst (.int 3))) (eVar 3))) (tstB (eBin geW (eBin addW (eVar 3) (eVar 8)) (eCst (.int 0))))) (sAsg 3 (eBin addW (eVar 3) (eVar 8))) (sAsg 3 (eUn negW (eCst (.int 1))))) (sAsg 3 (eCB max2W (aCons (eCst (.int 0)) (aCons (eBin addW (eBin addW (eCB max2W (aCons (eCst (.int 0)) (aCons (eVar 3) aNil))) (eVar 8)) (eBin ixW (eLstP (aCons (eCst (.int 0)) (aCons (eBin ixW (eBin ixW (eVar 1) (eCst (.int 2))) (eCst (.int 0))) aNil))) (eCB intW (aCons (eBin (eqW false) (eVar 5) (eCst (.str "brake"))) aNil)))) aNil)))))
  (sExpr (eBM "list" insertW (eVar 2) (aCons (eCst (.int 0)) (aCons (eVar 3) aNil))))))))
def m_l_envelope : List P → Rp := runP 9 (sSeq (sAsg 2 (eLst aNil))
  (sSeq (sAsg 3 (eCst (.int 0)))
  (sSeq (sFor (iRangeD (aCons (eBin subW (eCB lenW (aCons (eVar 0) aNil)) (eCst (.int 1))) (aCons (eUn negW (eCst (.int 1))) (aCons (eUn negW (eCst (.int 1))) aNil)))) (.nm 4) m_l_envelope_b1)
  (sRet (eVar 2)))))
/-! _law_faults -/
def m_l_faults_b1 : FS := (sSeq (sAsg 7 (eCall 2 m_l_first_of (aCons (eVar 0) (aCons (eVar 6) aNil))))
  (sSeq (sAsg 8 (eCall 2 m_l_brake_of (aCons (eVar 0) (aCons (eVar 6) aNil))))
  (sSeq (sIf (tstB (eBin ltW (eBin subW (eVar 8) (eVar 7)) (eBin ixW (eVar 1) (eCst (.int 0))))) (sExpr (eBM "list" appendW (eVar 5) (aCons (eTup (aCons (eCst (.str "short")) (aCons (eVar 6) aNil))) aNil))) sSkip)
  (sSeq (sIf (tstB (eBin (inW false) (eCst (.int 0)) (eSl (eVar 2) (pSome (eVar 7)) (pSome (eBin addW (eVar 8) (eCst (.int 1))))))) (sExpr (eBM "list" appendW (eVar 5) (aCons (eTup (aCons (eCst (.str "stall")) (aCons (eVar 6) aNil))) aNil))) sSkip)
  (sIf (tstB (eBin gtW (eBin ixW (eVar 3) (eVar 8)) (eBin ixW (eVar 4) (eVar 8)))) (sExpr (eBM "list" appendW (eVar 5) (aCons (eTup (aCons (eCst (.str "fast")) (aCons (eVar 6) aNil))) aNil))) sSkip)))))
def m_l_faults : List P → Rp := runP 9 (sSeq (sAsg 2 (eCall 2 m_l_least (aCons (eVar 0) (aCons (eVar 1) aNil))))
  (sSeq (sAsg 3 (eCall 2 m_l_greatest (aCons (eVar 0) (aCons (eVar 1) aNil))))
  (sSeq (sAsg 4 (eCall 2 m_l_envelope (aCons (eVar 0) (aCons (eVar 1) aNil))))
  (sSeq (sAsg 5 (eLst aNil))
  (sSeq (sFor (iRange1 (aCons (eBin addW (eBin ixW (eBin ixW (eVar 0) (eUn negW (eCst (.int 1)))) (eCst (.int 2))) (eCst (.int 1))) aNil)) (.nm 6) m_l_faults_b1)
  (sRet (eVar 5)))))))
/-! law -/
def m_law_b1 : FS := (sSeq (sAsg 13 (eCall 2 m_l_first_of (aCons (eVar 4) (aCons (eVar 12) aNil))))
  (sSeq (sAsg 14 (eCall 2 m_l_brake_of (aCons (eVar 4) (aCons (eVar 12) aNil))))
  (sSeq (sAsg 15 (eCst (.str "fit")))
  (sSeq (sIf (tstB (eBin geW (eBin subW (eVar 14) (eVar 13)) (eBin ixW (eVar 3) (eCst (.int 0))))) (sAsg 15 (eCall 5 m_l_sum_times (aCons (eVar 4) (aCons (eVar 3) (aCons (eVar 12) (aCons (eVar 13) (aCons (eBin addW (eVar 13) (eBin ixW (eVar 3) (eCst (.int 0)))) aNil))))))) sSkip)
  (sSeq (sIf (tNotB (tstB (eCall 2 (m_l_like 5) (aCons (eCall 3 m_l_passage (aCons (eVar 5) (aCons (eVar 6) (aCons (eVar 12) aNil)))) (aCons (eVar 15) aNil))))) (sRet (eCst (.bl false))) sSkip)
  (sIf (tAndB (tstB (eBin (eqW true) (eVar 15) (eCst (.str "fit")))) (tstB (eBin (isW true) (eVar 15) (eCst .non)))) (sSeq (sAsg 16 (eCall 5 m_l_sum_times (aCons (eVar 4) (aCons (eVar 3) (aCons (eVar 12) (aCons (eBin addW (eVar 13) (eBin ixW (eVar 3) (eCst (.int 0)))) (aCons (eVar 14) aNil)))))))
  (sSeq (sExpr (eBM "list" appendW (eVar 9) (aCons (eTup (aCons (eCB max2W (aCons (eCst (.int 1)) (aCons (eBin fdivW (eBin ixW (eVar 16) (eCst (.int 0))) (eVar 8)) aNil))) (aCons (eBin addW (eBin fdivW (eBin ixW (eVar 16) (eCst (.int 1))) (eVar 8)) (eCst (.int 1))) aNil))) aNil)))
  (sSeq (sAsg 10 (eCB max2W (aCons (eVar 10) (aCons (eBin addW (eBin fdivW (eBin ixW (eVar 15) (eCst (.int 1))) (eVar 8)) (eCst (.int 1))) aNil))))
  (sAsg 11 (eOr (eVar 11) (eBin ltW (eBin ixW (eVar 15) (eCst (.int 0))) (eVar 8))))))) sSkip))))))
def m_law : List P → Rp := runP 17 (sSeq (sAsg 1 (eCall 2 m_l_draws (aCons (eCall 2 m_l_cell (aCons (eVar 0) (aCons (eCst (.int 0)) aNil))) (aCons (eCst (.int 30)) aNil))))
  (sSeq (sAsg 2 (eCall 1 m_l_safe_rows (aCons (eVar 1) aNil)))
  (sSeq (sAsg 3 (eCall 1 m_l_safe_train (aCons (eVar 1) aNil)))
  (sSeq (sIf (tstB (eBin (eqW false) (eBin modW (eBin ixW (eVar 1) (eCst (.int 20))) (eCst (.int 5))) (eCst (.int 0)))) (sSeq (sAsg 2 (eCall 1 m_l_drawn_layout (aCons (eVar 1) aNil)))
  (sAsg 3 (eCall 1 m_l_drawn_train (aCons (eVar 1) aNil)))) sSkip)
  (sSeq (sAsg 4 (eCall 1 m_l_metres (aCons (eVar 2) aNil)))
  (sSeq (sAsg 5 (eCall 1 m_l_layout (aCons (eVar 2) aNil)))
  (sSeq (sAsg 6 (eCall 1 m_l_train (aCons (eVar 3) aNil)))
  (sSeq (sAsg 7 (eBin addW (eBin ixW (eBin ixW (eVar 4) (eUn negW (eCst (.int 1)))) (eCst (.int 2))) (eCst (.int 1))))
  (sSeq (sAsg 8 (eBin ixW (eLstP (aCons (eBin addW (eCst (.int 1000)) (eBin ixW (eVar 1) (eCst (.int 21)))) (aCons (eBin addW (eCst (.int 20000)) (eBin mulW (eCst (.int 30)) (eBin ixW (eVar 1) (eCst (.int 22))))) (aCons (eBin addW (eCst (.int 100000)) (eBin mulW (eCst (.int 300)) (eBin ixW (eVar 1) (eCst (.int 22))))) (aCons (eCst (.int 5000000)) aNil))))) (eBin modW (eBin ixW (eVar 1) (eCst (.int 23))) (eCst (.int 4)))))
  (sSeq (sAsg 9 (eLst aNil))
  (sSeq (sAsg 10 (eCst (.int 1)))
  (sSeq (sAsg 11 (eCst (.bl false)))
  (sSeq (sFor (iRange1 (aCons (eVar 7) aNil)) (.nm 12) m_law_b1)
  (sSeq (sIf (tOrB (tstB (eBin (eqW true) (eCall 3 m_l_passage (aCons (eVar 5) (aCons (eVar 6) (aCons (eVar 7) aNil)))) (eCst (.str "number")))) (tOrB (tNotB (tstB (eCall 2 (m_l_equal 5) (aCons (eCall 4 m_l_told (aCons (eVar 5) (aCons (eVar 6) (aCons (eCst (.int 999)) (aCons (eLstP (aCons (eCst (.int 0)) aNil)) aNil))))) (aCons (eCst (.str "number")) aNil))))) (tNotB (tstB (eCall 2 (m_l_equal 5) (aCons (eCall 4 m_l_told (aCons (eVar 5) (aCons (eVar 6) (aCons (eCst (.int 10000001)) (aCons (eLstP (aCons (eCst (.int 0)) aNil)) aNil))))) (aCons (eCst (.str "number")) aNil))))))) (sRet (eCst (.bl false))) sSkip)
  (sSeq (sAsg 15 (eTup (aCons (eCB tupleW (aCons (eVar 9) aNil)) (aCons (eVar 10) (aCons (eTup (aCons (eBin modW (eBin ixW (eVar 1) (eCst (.int 24))) (eVar 7)) aNil)) aNil)))))
  (sSeq (sIf (tOrB (tstB (eBin gtW (eCB lenW (aCons (eCall 2 m_l_faults (aCons (eVar 4) (aCons (eVar 3) aNil))) aNil)) (eCst (.int 0)))) (tOrB (tstB (eVar 11)) (tOrB (tstB (eBin gtW (eVar 10) (eCst (.int 20)))) (tstB (eBin gtW (eCB maxW (aCons (eBin addW (eLstP (aCons (eCst (.int 0)) aNil)) (eLc (iSeq (eVar 9)) [16] (.nm 16) cYes (eBin ixW (eVar 16) (eCst (.int 1))))) aNil)) (eCst (.int 99))))))) (sAsg 15 (eCst (.str "fit"))) sSkip)
  (sSeq (sIf (tNotB (tstB (eCall 2 (m_l_like 5) (aCons (eCall 4 m_l_told (aCons (eVar 5) (aCons (eVar 6) (aCons (eVar 8) (aCons (eLstP (aCons (eBin modW (eBin ixW (eVar 1) (eCst (.int 24))) (eVar 7)) aNil)) aNil))))) (aCons (eVar 15) aNil))))) (sRet (eCst (.bl false))) sSkip)
  (sRet (eOr (eBin (eqW false) (eVar 15) (eCst (.str "fit"))) (eCall 2 (m_l_equal 5) (aCons (eCall 4 m_l_told (aCons (eVar 5) (aCons (eVar 6) (aCons (eVar 8) (aCons (eLstP (aCons (eCst (.int 0)) (aCons (eCst (.int 0)) aNil))) aNil))))) (aCons (eCst (.str "ride")) aNil))))))))))))))))))))))
end
end Gk15
end
-- part G15
section
set_option Elab.async false
set_option linter.all false
set_option maxRecDepth 100000
set_option maxHeartbeats 0
set_option autoImplicit false
namespace Gk15
open PySem PySem.Spec PyProof.Rows L2 Z
def top (i : Nat) : Stmt := PySem.Challenge.pw_coastersafe_k15_passages_and_rides_of_la.main.body.getD i (.Pass ⟨0, 0, 0, 0⟩)
abbrev s_l_draws : Stmt := top 57
theorem sc_l_draws : FnScope ["cell", "count", "rows", "left", "k", "mixed"] ["cell", "count"] (defScope s_l_draws) := ⟨rfl, rfl, rfl, by decide +kernel, rfl, by decide +kernel, by decide +kernel⟩
abbrev s_l_cell : Stmt := top 56
theorem sc_l_cell : FnScope ["script", "k"] ["script", "k"] (defScope s_l_cell) := ⟨rfl, rfl, rfl, by decide +kernel, rfl, by decide +kernel, by decide +kernel⟩
abbrev s_l_safe_rows : Stmt := top 66
theorem sc_l_safe_rows : FnScope ["draws", "up", "slope"] ["draws"] (defScope s_l_safe_rows) := ⟨rfl, rfl, rfl, by decide +kernel, rfl, by decide +kernel, by decide +kernel⟩
abbrev s_l_safe_train : Stmt := top 67
theorem sc_l_safe_train : FnScope ["draws", "rough", "strong"] ["draws"] (defScope s_l_safe_train) := ⟨rfl, rfl, rfl, by decide +kernel, rfl, by decide +kernel, by decide +kernel⟩
abbrev s_l_drawn_segments : Stmt := top 59
theorem sc_l_drawn_segments : FnScope ["draws", "most", "count", "rows", "height", "block", "k", "draw", "kind", "slope", "length", "tilt", "left"] ["draws", "most"] (defScope s_l_drawn_segments) := ⟨rfl, rfl, rfl, by decide +kernel, rfl, by decide +kernel, by decide +kernel⟩
abbrev s_l_drawn_layout : Stmt := top 60
theorem sc_l_drawn_layout : FnScope ["draws", "rows", "height", "kind", "length", "slope"] ["draws"] (defScope s_l_drawn_layout) := ⟨rfl, rfl, rfl, by decide +kernel, rfl, by decide +kernel, by decide +kernel⟩
abbrev s_l_drawn_train : Stmt := top 61
theorem sc_l_drawn_train : FnScope ["draws", "rough", "strong"] ["draws"] (defScope s_l_drawn_train) := ⟨rfl, rfl, rfl, by decide +kernel, rfl, by decide +kernel, by decide +kernel⟩
abbrev s_l_metres : Stmt := top 62
theorem sc_l_metres : FnScope ["rows", "found", "block", "kind", "length", "slope", "k"] ["rows"] (defScope s_l_metres) := ⟨rfl, rfl, rfl, by decide +kernel, rfl, by decide +kernel, by decide +kernel⟩
abbrev s_check_segments : Stmt := top 46
theorem sc_check_segments : FnScope ["segments", "kind", "length", "slope", "_"] ["segments"] (defScope s_check_segments) := ⟨rfl, rfl, rfl, by decide +kernel, rfl, by decide +kernel, by decide +kernel⟩
abbrev s_Layout_init : Stmt := inClass (top 47) 0
theorem sc_Layout_init : FnScope ["self", "segments", "kind", "length", "slope", "block", "_"] ["self", "segments"] (defScope s_Layout_init) := ⟨rfl, rfl, rfl, by decide +kernel, rfl, by decide +kernel, by decide +kernel⟩
abbrev s_l_layout : Stmt := top 64
theorem sc_l_layout : FnScope ["rows", "row"] ["rows"] (defScope s_l_layout) := ⟨rfl, rfl, rfl, by decide +kernel, rfl, by decide +kernel, by decide +kernel⟩
abbrev s_is_interval : Stmt := top 14
theorem sc_is_interval : FnScope ["pair"] ["pair"] (defScope s_is_interval) := ⟨rfl, rfl, rfl, by decide +kernel, rfl, by decide +kernel, by decide +kernel⟩
abbrev s_Train_init : Stmt := inClass (top 53) 0
theorem sc_Train_init : FnScope ["self", "length", "friction", "brake", "lift", "drive"] ["self", "length", "friction", "brake", "lift", "drive"] (defScope s_Train_init) := ⟨rfl, rfl, rfl, by decide +kernel, rfl, by decide +kernel, by decide +kernel⟩
abbrev s_l_train : Stmt := top 65
theorem sc_l_train : FnScope ["data"] ["data"] (defScope s_l_train) := ⟨rfl, rfl, rfl, by decide +kernel, rfl, by decide +kernel, by decide +kernel⟩
abbrev s_l_first_of : Stmt := top 73
theorem sc_l_first_of : FnScope ["metres", "block", "k"] ["metres", "block"] (defScope s_l_first_of) := ⟨rfl, rfl, rfl, by decide +kernel, rfl, by decide +kernel, by decide +kernel⟩
abbrev s_l_brake_of : Stmt := top 74
theorem sc_l_brake_of : FnScope ["metres", "block", "k"] ["metres", "block"] (defScope s_l_brake_of) := ⟨rfl, rfl, rfl, by decide +kernel, rfl, by decide +kernel, by decide +kernel⟩
abbrev s_l_after : Stmt := top 63
theorem sc_l_after : FnScope ["metre", "data", "energy", "friction", "strength", "kind", "slope", "block", "rest"] ["metre", "data", "energy", "friction", "strength"] (defScope s_l_after) := ⟨rfl, rfl, rfl, by decide +kernel, rfl, by decide +kernel, by decide +kernel⟩
abbrev s_l_least : Stmt := top 68
theorem sc_l_least : FnScope ["metres", "data", "found", "energy", "k"] ["metres", "data"] (defScope s_l_least) := ⟨rfl, rfl, rfl, by decide +kernel, rfl, by decide +kernel, by decide +kernel⟩
abbrev s_l_greatest : Stmt := top 69
theorem sc_l_greatest : FnScope ["metres", "data", "energy", "turn", "found", "metre"] ["metres", "data"] (defScope s_l_greatest) := ⟨rfl, rfl, rfl, by decide +kernel, rfl, by decide +kernel, by decide +kernel⟩
abbrev s_l_root : Stmt := top 71
theorem sc_l_root : FnScope ["number", "low", "high", "k", "middle"] ["number"] (defScope s_l_root) := ⟨rfl, rfl, rfl, by decide +kernel, rfl, by decide +kernel, by decide +kernel⟩
abbrev s_l_times : Stmt := top 72
theorem sc_l_times : FnScope ["low", "high", "up", "down"] ["low", "high"] (defScope s_l_times) := ⟨rfl, rfl, rfl, by decide +kernel, rfl, by decide +kernel, by decide +kernel⟩
abbrev s_l_sum_times : Stmt := top 75
theorem sc_l_sum_times : FnScope ["metres", "data", "block", "first", "behind", "least", "greatest", "low", "high", "k", "one", "other"] ["metres", "data", "block", "first", "behind"] (defScope s_l_sum_times) := ⟨rfl, rfl, rfl, by decide +kernel, rfl, by decide +kernel, by decide +kernel⟩
abbrev s_l_like : Stmt := top 58
theorem sc_l_like : FnScope ["actual", "due", "k"] ["actual", "due"] (defScope s_l_like) := ⟨rfl, rfl, rfl, by decide +kernel, rfl, by decide +kernel, by decide +kernel⟩
abbrev s_Layout_check_block : Stmt := inClass (top 47) 4
theorem sc_Layout_check_block : FnScope ["self", "block"] ["self", "block"] (defScope s_Layout_check_block) := ⟨rfl, rfl, rfl, by decide +kernel, rfl, by decide +kernel, by decide +kernel⟩
abbrev s_Layout_begin : Stmt := inClass (top 47) 7
theorem sc_Layout_begin : FnScope ["self", "block"] ["self", "block"] (defScope s_Layout_begin) := ⟨rfl, rfl, rfl, by decide +kernel, rfl, by decide +kernel, by decide +kernel⟩
abbrev s_Layout_brake : Stmt := inClass (top 47) 8
theorem sc_Layout_brake : FnScope ["self", "block"] ["self", "block"] (defScope s_Layout_brake) := ⟨rfl, rfl, rfl, by decide +kernel, rfl, by decide +kernel, by decide +kernel⟩
abbrev s_Layout_blocks : Stmt := inClass (top 47) 2
theorem sc_Layout_blocks : FnScope ["self"] ["self"] (defScope s_Layout_blocks) := ⟨rfl, rfl, rfl, by decide +kernel, rfl, by decide +kernel, by decide +kernel⟩
abbrev s_Layout_end : Stmt := inClass (top 47) 9
theorem sc_Layout_end : FnScope ["self", "block"] ["self", "block"] (defScope s_Layout_end) := ⟨rfl, rfl, rfl, by decide +kernel, rfl, by decide +kernel, by decide +kernel⟩
abbrev s_Layout_check_metre : Stmt := inClass (top 47) 3
theorem sc_Layout_check_metre : FnScope ["self", "number"] ["self", "number"] (defScope s_Layout_check_metre) := ⟨rfl, rfl, rfl, by decide +kernel, rfl, by decide +kernel, by decide +kernel⟩
abbrev s_check_energy : Stmt := top 19
theorem sc_check_energy : FnScope ["layout", "metre", "energy"] ["layout", "metre", "energy"] (defScope s_check_energy) := ⟨rfl, rfl, rfl, by decide +kernel, rfl, by decide +kernel, by decide +kernel⟩
abbrev s_Layout_metre : Stmt := inClass (top 47) 5
theorem sc_Layout_metre : FnScope ["self", "number"] ["self", "number"] (defScope s_Layout_metre) := ⟨rfl, rfl, rfl, by decide +kernel, rfl, by decide +kernel, by decide +kernel⟩
abbrev s_after_metre : Stmt := top 20
theorem sc_after_metre : FnScope ["layout", "train", "metre", "energy", "friction", "strength", "kind", "slope", "_", "rest"] ["layout", "train", "metre", "energy", "friction", "strength"] (defScope s_after_metre) := ⟨rfl, rfl, rfl, by decide +kernel, rfl, by decide +kernel, by decide +kernel⟩
abbrev s_Layout_total : Stmt := inClass (top 47) 1
theorem sc_Layout_total : FnScope ["self"] ["self"] (defScope s_Layout_total) := ⟨rfl, rfl, rfl, by decide +kernel, rfl, by decide +kernel, by decide +kernel⟩
abbrev s_roll : Stmt := top 21
theorem sc_roll : FnScope ["layout", "train", "metre", "energy", "frictions", "strengths", "found", "friction", "strength"] ["layout", "train", "metre", "energy", "frictions", "strengths"] (defScope s_roll) := ⟨rfl, rfl, rfl, by decide +kernel, rfl, by decide +kernel, by decide +kernel⟩
abbrev s_least_energies : Stmt := top 23
theorem sc_least_energies : FnScope ["layout", "train", "found", "block", "count", "rough"] ["layout", "train"] (defScope s_least_energies) := ⟨rfl, rfl, rfl, by decide +kernel, rfl, by decide +kernel, by decide +kernel⟩
abbrev s_greatest_energies : Stmt := top 22
theorem sc_greatest_energies : FnScope ["layout", "train", "total", "free", "first"] ["layout", "train"] (defScope s_greatest_energies) := ⟨rfl, rfl, rfl, by decide +kernel, rfl, by decide +kernel, by decide +kernel⟩
abbrev s_added : Stmt := top 15
theorem sc_added : FnScope ["first", "second"] ["first", "second"] (defScope s_added) := ⟨rfl, rfl, rfl, by decide +kernel, rfl, by decide +kernel, by decide +kernel⟩
abbrev s_check_divisor : Stmt := top 9
theorem sc_check_divisor : FnScope ["divisor"] ["divisor"] (defScope s_check_divisor) := ⟨rfl, rfl, rfl, by decide +kernel, rfl, by decide +kernel, by decide +kernel⟩
abbrev s_divided_up : Stmt := top 11
theorem sc_divided_up : FnScope ["number", "divisor"] ["number", "divisor"] (defScope s_divided_up) := ⟨rfl, rfl, rfl, by decide +kernel, rfl, by decide +kernel, by decide +kernel⟩
abbrev s_root_down : Stmt := top 12
theorem sc_root_down : FnScope ["number", "low", "high", "middle"] ["number"] (defScope s_root_down) := ⟨rfl, rfl, rfl, by decide +kernel, rfl, by decide +kernel, by decide +kernel⟩
abbrev s_divided_down : Stmt := top 10
theorem sc_divided_down : FnScope ["number", "divisor"] ["number", "divisor"] (defScope s_divided_down) := ⟨rfl, rfl, rfl, by decide +kernel, rfl, by decide +kernel, by decide +kernel⟩
abbrev s_root_up : Stmt := top 13
theorem sc_root_up : FnScope ["number", "found"] ["number"] (defScope s_root_up) := ⟨rfl, rfl, rfl, by decide +kernel, rfl, by decide +kernel, by decide +kernel⟩
abbrev s_metre_times : Stmt := top 24
theorem sc_metre_times : FnScope ["low", "high"] ["low", "high"] (defScope s_metre_times) := ⟨rfl, rfl, rfl, by decide +kernel, rfl, by decide +kernel, by decide +kernel⟩
abbrev s_times_between : Stmt := top 25
theorem sc_times_between : FnScope ["layout", "train", "block", "first", "behind", "least", "greatest", "total", "metre", "low"] ["layout", "train", "block", "first", "behind"] (defScope s_times_between) := ⟨rfl, rfl, rfl, by decide +kernel, rfl, by decide +kernel, by decide +kernel⟩
abbrev s_passage_times : Stmt := top 38
theorem sc_passage_times : FnScope ["layout", "train", "block", "begin"] ["layout", "train", "block"] (defScope s_passage_times) := ⟨rfl, rfl, rfl, by decide +kernel, rfl, by decide +kernel, by decide +kernel⟩
abbrev s_l_passage : Stmt := top 78
theorem sc_l_passage : FnScope ["layout", "train", "block"] ["layout", "train", "block"] (defScope s_l_passage) := ⟨rfl, rfl, rfl, by decide +kernel, rfl, by decide +kernel, by decide +kernel⟩
abbrev s_l_equal : Stmt := top 55
theorem sc_l_equal : FnScope ["x", "y", "k", "key"] ["x", "y"] (defScope s_l_equal) := ⟨rfl, rfl, rfl, by decide +kernel, rfl, by decide +kernel, by decide +kernel⟩
abbrev s_envelope_before : Stmt := top 35
theorem sc_envelope_before : FnScope ["layout", "train", "metre", "following", "kind", "slope", "_", "rest"] ["layout", "train", "metre", "following"] (defScope s_envelope_before) := ⟨rfl, rfl, rfl, by decide +kernel, rfl, by decide +kernel, by decide +kernel⟩
abbrev s_envelope : Stmt := top 36
theorem sc_envelope : FnScope ["layout", "train", "found", "block", "backward", "following", "metre"] ["layout", "train"] (defScope s_envelope) := ⟨rfl, rfl, rfl, by decide +kernel, rfl, by decide +kernel, by decide +kernel⟩
abbrev s_faults : Stmt := top 37
theorem sc_faults : FnScope ["layout", "train", "limits", "least", "greatest", "found", "block", "begin", "brake"] ["layout", "train"] (defScope s_faults) := ⟨rfl, rfl, rfl, by decide +kernel, rfl, by decide +kernel, by decide +kernel⟩
abbrev s_Ride_init : Stmt := inClass (top 31) 0
theorem sc_Ride_init : FnScope ["self", "ways", "over", "trains", "low", "high", "block"] ["self", "ways", "over", "trains"] (defScope s_Ride_init) := ⟨rfl, rfl, rfl, by decide +kernel, rfl, by decide +kernel, by decide +kernel⟩
abbrev s_ride_of : Stmt := top 39
theorem sc_ride_of : FnScope ["layout", "train", "scan", "trains", "ways", "over", "block", "behind", "least", "greatest", "_", "most"] ["layout", "train", "scan", "trains"] (defScope s_ride_of) := ⟨rfl, rfl, rfl, by decide +kernel, rfl, by decide +kernel, by decide +kernel⟩
abbrev s_l_told : Stmt := top 77
theorem sc_l_told : FnScope ["layout", "train", "scan", "trains", "kept_before", "row", "ride"] ["layout", "train", "scan", "trains"] (defScope s_l_told) := ⟨rfl, rfl, rfl, by decide +kernel, rfl, by decide +kernel, by decide +kernel⟩
abbrev s_l_envelope : Stmt := top 70
theorem sc_l_envelope : FnScope ["metres", "data", "found", "behind", "k", "kind", "slope", "block", "rest"] ["metres", "data"] (defScope s_l_envelope) := ⟨rfl, rfl, rfl, by decide +kernel, rfl, by decide +kernel, by decide +kernel⟩
abbrev s_l_faults : Stmt := top 76
theorem sc_l_faults : FnScope ["metres", "data", "least", "greatest", "limits", "found", "block", "first", "brake"] ["metres", "data"] (defScope s_l_faults) := ⟨rfl, rfl, rfl, by decide +kernel, rfl, by decide +kernel, by decide +kernel⟩
abbrev s_law : Stmt := top 79
theorem sc_law : FnScope ["script", "draws", "rows", "data", "metres", "layout", "train", "count", "scan", "ways", "over", "fast", "block", "first", "brake", "due", "way"] ["script"] (defScope s_law) := ⟨rfl, rfl, rfl, by decide +kernel, rfl, by decide +kernel, by decide +kernel⟩
def tf : List He.Defn := [("Ride", some "__init__")]
structure Txt (K : PySem.W.Frag) (mg : Str → Option Value) : Prop where
  b_range : mg "range" = none
  b_int : mg "int" = none
  f_l_draws : ∃ fd, FunD K "_law_draws" "_law_draws" (defArgs s_l_draws) (defBody s_l_draws) (defScope s_l_draws) [] [] (He.ga K "_law_draws") fd
  g_l_draws : mg "_law_draws" = some (.ref (He.ga K "_law_draws"))
  b_len : mg "len" = none
  b_abs : mg "abs" = none
  f_l_cell : ∃ fd, FunD K "_law_cell" "_law_cell" (defArgs s_l_cell) (defBody s_l_cell) (defScope s_l_cell) [] [] (He.ga K "_law_cell") fd
  g_l_cell : mg "_law_cell" = some (.ref (He.ga K "_law_cell"))
  f_l_safe_rows : ∃ fd, FunD K "_law_safe_rows" "_law_safe_rows" (defArgs s_l_safe_rows) (defBody s_l_safe_rows) (defScope s_l_safe_rows) [] [] (He.ga K "_law_safe_rows") fd
  g_l_safe_rows : mg "_law_safe_rows" = some (.ref (He.ga K "_law_safe_rows"))
  f_l_safe_train : ∃ fd, FunD K "_law_safe_train" "_law_safe_train" (defArgs s_l_safe_train) (defBody s_l_safe_train) (defScope s_l_safe_train) [] [] (He.ga K "_law_safe_train") fd
  g_l_safe_train : mg "_law_safe_train" = some (.ref (He.ga K "_law_safe_train"))
  b_min : mg "min" = none
  b_max : mg "max" = none
  f_l_drawn_segments : ∃ fd, FunD K "_law_drawn_segments" "_law_drawn_segments" (defArgs s_l_drawn_segments) (defBody s_l_drawn_segments) (defScope s_l_drawn_segments) [] [] (He.ga K "_law_drawn_segments") fd
  g_l_drawn_segments : mg "_law_drawn_segments" = some (.ref (He.ga K "_law_drawn_segments"))
  b_sum : mg "sum" = none
  f_l_drawn_layout : ∃ fd, FunD K "_law_drawn_layout" "_law_drawn_layout" (defArgs s_l_drawn_layout) (defBody s_l_drawn_layout) (defScope s_l_drawn_layout) [] [] (He.ga K "_law_drawn_layout") fd
  g_l_drawn_layout : mg "_law_drawn_layout" = some (.ref (He.ga K "_law_drawn_layout"))
  f_l_drawn_train : ∃ fd, FunD K "_law_drawn_train" "_law_drawn_train" (defArgs s_l_drawn_train) (defBody s_l_drawn_train) (defScope s_l_drawn_train) [] [] (He.ga K "_law_drawn_train") fd
  g_l_drawn_train : mg "_law_drawn_train" = some (.ref (He.ga K "_law_drawn_train"))
  f_l_metres : ∃ fd, FunD K "_law_metres" "_law_metres" (defArgs s_l_metres) (defBody s_l_metres) (defScope s_l_metres) [] [] (He.ga K "_law_metres") fd
  g_l_metres : mg "_law_metres" = some (.ref (He.ga K "_law_metres"))
  g_KINDS : mg "KINDS" = some (.ref (He.ga K "KINDS"))
  c_KINDS : GloOk K (ctOf K tf) mg "KINDS" (.tup [.str "coast", .str "lift", .str "brake"])
  c_MOST_LENGTH_layout : GloOk K (ctOf K tf) mg "MOST_LENGTH_layout" (.int 500)
  c_MOST_SLOPE : GloOk K (ctOf K tf) mg "MOST_SLOPE" (.int 100)
  g_InvalidLayout : mg "InvalidLayout" = some (.ref (He.ga K "InvalidLayout"))
  x_InvalidLayout : ExcF K mg (ctOf K tf) "InvalidLayout"
  c_MOST_TOTAL : GloOk K (ctOf K tf) mg "MOST_TOTAL" (.int 4000)
  c_MOST_BLOCKS_layout : GloOk K (ctOf K tf) mg "MOST_BLOCKS_layout" (.int 12)
  f_check_segments : ∃ fd, FunD K "check_segments" "check_segments" (defArgs s_check_segments) (defBody s_check_segments) (defScope s_check_segments) [] [] (He.ga K "check_segments") fd
  g_check_segments : mg "check_segments" = some (.ref (He.ga K "check_segments"))
  b_tuple : mg "tuple" = none
  cl_Layout : Cls K (He.ga K "Layout")
  na_Layout_segments : NoAttr K (He.ga K "Layout") "segments"
  na_Layout_metres : NoAttr K (He.ga K "Layout") "metres"
  na_Layout_begins : NoAttr K (He.ga K "Layout") "begins"
  na_Layout_brakes : NoAttr K (He.ga K "Layout") "brakes"
  na_Layout_heights : NoAttr K (He.ga K "Layout") "heights"
  f_Layout_init : ∃ fd, FunD K "__init__" "Layout.__init__" (defArgs s_Layout_init) (defBody s_Layout_init) (defScope s_Layout_init) [] [] (He.ma K (He.ga K "Layout") "__init__") fd
  g_Layout : mg "Layout" = some (.ref (He.ga K "Layout"))
  mk_Layout : Mk K (He.ga K "Layout") (He.ma K (He.ga K "Layout") "__init__")
  f_l_layout : ∃ fd, FunD K "_law_layout" "_law_layout" (defArgs s_l_layout) (defBody s_l_layout) (defScope s_l_layout) [] [] (He.ga K "_law_layout") fd
  g_l_layout : mg "_law_layout" = some (.ref (He.ga K "_law_layout"))
  c_MOST_LENGTH_train : GloOk K (ctOf K tf) mg "MOST_LENGTH_train" (.int 100)
  g_InvalidTrain : mg "InvalidTrain" = some (.ref (He.ga K "InvalidTrain"))
  x_InvalidTrain : ExcF K mg (ctOf K tf) "InvalidTrain"
  f_is_interval : ∃ fd, FunD K "is_interval" "is_interval" (defArgs s_is_interval) (defBody s_is_interval) (defScope s_is_interval) [] [] (He.ga K "is_interval") fd
  g_is_interval : mg "is_interval" = some (.ref (He.ga K "is_interval"))
  c_MOST_FRICTION : GloOk K (ctOf K tf) mg "MOST_FRICTION" (.int 100000)
  c_MOST_BRAKE : GloOk K (ctOf K tf) mg "MOST_BRAKE" (.int 1000000)
  c_MOST_ENERGY : GloOk K (ctOf K tf) mg "MOST_ENERGY" (.int 10000000)
  cl_Train : Cls K (He.ga K "Train")
  na_Train_length : NoAttr K (He.ga K "Train") "length"
  na_Train_friction : NoAttr K (He.ga K "Train") "friction"
  na_Train_brake : NoAttr K (He.ga K "Train") "brake"
  na_Train_lift : NoAttr K (He.ga K "Train") "lift"
  na_Train_drive : NoAttr K (He.ga K "Train") "drive"
  f_Train_init : ∃ fd, FunD K "__init__" "Train.__init__" (defArgs s_Train_init) (defBody s_Train_init) (defScope s_Train_init) [] [] (He.ma K (He.ga K "Train") "__init__") fd
  g_Train : mg "Train" = some (.ref (He.ga K "Train"))
  mk_Train : Mk K (He.ga K "Train") (He.ma K (He.ga K "Train") "__init__")
  f_l_train : ∃ fd, FunD K "_law_train" "_law_train" (defArgs s_l_train) (defBody s_l_train) (defScope s_l_train) [] [] (He.ga K "_law_train") fd
  g_l_train : mg "_law_train" = some (.ref (He.ga K "_law_train"))
  f_l_first_of : ∃ fd, FunD K "_law_first_of" "_law_first_of" (defArgs s_l_first_of) (defBody s_l_first_of) (defScope s_l_first_of) [] [] (He.ga K "_law_first_of") fd
  g_l_first_of : mg "_law_first_of" = some (.ref (He.ga K "_law_first_of"))
  f_l_brake_of : ∃ fd, FunD K "_law_brake_of" "_law_brake_of" (defArgs s_l_brake_of) (defBody s_l_brake_of) (defScope s_l_brake_of) [] [] (He.ga K "_law_brake_of") fd
  g_l_brake_of : mg "_law_brake_of" = some (.ref (He.ga K "_law_brake_of"))
  f_l_after : ∃ fd, FunD K "_law_after" "_law_after" (defArgs s_l_after) (defBody s_l_after) (defScope s_l_after) [] [] (He.ga K "_law_after") fd
  g_l_after : mg "_law_after" = some (.ref (He.ga K "_law_after"))
  f_l_least : ∃ fd, FunD K "_law_least" "_law_least" (defArgs s_l_least) (defBody s_l_least) (defScope s_l_least) [] [] (He.ga K "_law_least") fd
  g_l_least : mg "_law_least" = some (.ref (He.ga K "_law_least"))
  f_l_greatest : ∃ fd, FunD K "_law_greatest" "_law_greatest" (defArgs s_l_greatest) (defBody s_l_greatest) (defScope s_l_greatest) [] [] (He.ga K "_law_greatest") fd
  g_l_greatest : mg "_law_greatest" = some (.ref (He.ga K "_law_greatest"))
  f_l_root : ∃ fd, FunD K "_law_root" "_law_root" (defArgs s_l_root) (defBody s_l_root) (defScope s_l_root) [] [] (He.ga K "_law_root") fd
  g_l_root : mg "_law_root" = some (.ref (He.ga K "_law_root"))
  f_l_times : ∃ fd, FunD K "_law_times" "_law_times" (defArgs s_l_times) (defBody s_l_times) (defScope s_l_times) [] [] (He.ga K "_law_times") fd
  g_l_times : mg "_law_times" = some (.ref (He.ga K "_law_times"))
  f_l_sum_times : ∃ fd, FunD K "_law_sum_times" "_law_sum_times" (defArgs s_l_sum_times) (defBody s_l_sum_times) (defScope s_l_sum_times) [] [] (He.ga K "_law_sum_times") fd
  g_l_sum_times : mg "_law_sum_times" = some (.ref (He.ga K "_law_sum_times"))
  b_isinstance : mg "isinstance" = none
  b_bool : mg "bool" = none
  b_str : mg "str" = none
  b_list : mg "list" = none
  b_all : mg "all" = none
  f_l_like : ∃ fd, FunD K "_law_like" "_law_like" (defArgs s_l_like) (defBody s_l_like) (defScope s_l_like) [] [] (He.ga K "_law_like") fd
  g_l_like : mg "_law_like" = some (.ref (He.ga K "_law_like"))
  g_BadNumber : mg "BadNumber" = some (.ref (He.ga K "BadNumber"))
  x_BadNumber : ExcF K mg (ctOf K tf) "BadNumber"
  f_Layout_check_block : ∃ fd, FunD K "check_block" "Layout.check_block" (defArgs s_Layout_check_block) (defBody s_Layout_check_block) (defScope s_Layout_check_block) [] [] (He.ma K (He.ga K "Layout") "check_block") fd
  me_Layout_check_block : Meth K (He.ga K "Layout") "check_block" (He.ma K (He.ga K "Layout") "check_block")
  f_Layout_begin : ∃ fd, FunD K "begin" "Layout.begin" (defArgs s_Layout_begin) (defBody s_Layout_begin) (defScope s_Layout_begin) [] [] (He.ma K (He.ga K "Layout") "begin") fd
  me_Layout_begin : Meth K (He.ga K "Layout") "begin" (He.ma K (He.ga K "Layout") "begin")
  f_Layout_brake : ∃ fd, FunD K "brake" "Layout.brake" (defArgs s_Layout_brake) (defBody s_Layout_brake) (defScope s_Layout_brake) [] [] (He.ma K (He.ga K "Layout") "brake") fd
  me_Layout_brake : Meth K (He.ga K "Layout") "brake" (He.ma K (He.ga K "Layout") "brake")
  g_NotFitting : mg "NotFitting" = some (.ref (He.ga K "NotFitting"))
  x_NotFitting : ExcF K mg (ctOf K tf) "NotFitting"
  f_Layout_blocks : ∃ fd, FunD K "blocks" "Layout.blocks" (defArgs s_Layout_blocks) (defBody s_Layout_blocks) (defScope s_Layout_blocks) [] [] (He.ma K (He.ga K "Layout") "blocks") fd
  me_Layout_blocks : Meth K (He.ga K "Layout") "blocks" (He.ma K (He.ga K "Layout") "blocks")
  f_Layout_end : ∃ fd, FunD K "end" "Layout.end" (defArgs s_Layout_end) (defBody s_Layout_end) (defScope s_Layout_end) [] [] (He.ma K (He.ga K "Layout") "end") fd
  me_Layout_end : Meth K (He.ga K "Layout") "end" (He.ma K (He.ga K "Layout") "end")
  f_Layout_check_metre : ∃ fd, FunD K "check_metre" "Layout.check_metre" (defArgs s_Layout_check_metre) (defBody s_Layout_check_metre) (defScope s_Layout_check_metre) [] [] (He.ma K (He.ga K "Layout") "check_metre") fd
  me_Layout_check_metre : Meth K (He.ga K "Layout") "check_metre" (He.ma K (He.ga K "Layout") "check_metre")
  f_check_energy : ∃ fd, FunD K "check_energy" "check_energy" (defArgs s_check_energy) (defBody s_check_energy) (defScope s_check_energy) [] [] (He.ga K "check_energy") fd
  g_check_energy : mg "check_energy" = some (.ref (He.ga K "check_energy"))
  b_zip : mg "zip" = none
  f_Layout_metre : ∃ fd, FunD K "metre" "Layout.metre" (defArgs s_Layout_metre) (defBody s_Layout_metre) (defScope s_Layout_metre) [] [] (He.ma K (He.ga K "Layout") "metre") fd
  me_Layout_metre : Meth K (He.ga K "Layout") "metre" (He.ma K (He.ga K "Layout") "metre")
  c_FALL : GloOk K (ctOf K tf) mg "FALL" (.int 1962)
  f_after_metre : ∃ fd, FunD K "after_metre" "after_metre" (defArgs s_after_metre) (defBody s_after_metre) (defScope s_after_metre) [] [] (He.ga K "after_metre") fd
  g_after_metre : mg "after_metre" = some (.ref (He.ga K "after_metre"))
  f_Layout_total : ∃ fd, FunD K "total" "Layout.total" (defArgs s_Layout_total) (defBody s_Layout_total) (defScope s_Layout_total) [] [] (He.ma K (He.ga K "Layout") "total") fd
  me_Layout_total : Meth K (He.ga K "Layout") "total" (He.ma K (He.ga K "Layout") "total")
  f_roll : ∃ fd, FunD K "roll" "roll" (defArgs s_roll) (defBody s_roll) (defScope s_roll) [] [] (He.ga K "roll") fd
  g_roll : mg "roll" = some (.ref (He.ga K "roll"))
  f_least_energies : ∃ fd, FunD K "least_energies" "least_energies" (defArgs s_least_energies) (defBody s_least_energies) (defScope s_least_energies) [] [] (He.ga K "least_energies") fd
  g_least_energies : mg "least_energies" = some (.ref (He.ga K "least_energies"))
  f_greatest_energies : ∃ fd, FunD K "greatest_energies" "greatest_energies" (defArgs s_greatest_energies) (defBody s_greatest_energies) (defScope s_greatest_energies) [] [] (He.ga K "greatest_energies") fd
  g_greatest_energies : mg "greatest_energies" = some (.ref (He.ga K "greatest_energies"))
  f_added : ∃ fd, FunD K "added" "added" (defArgs s_added) (defBody s_added) (defScope s_added) [] [] (He.ga K "added") fd
  g_added : mg "added" = some (.ref (He.ga K "added"))
  f_check_divisor : ∃ fd, FunD K "check_divisor" "check_divisor" (defArgs s_check_divisor) (defBody s_check_divisor) (defScope s_check_divisor) [] [] (He.ga K "check_divisor") fd
  g_check_divisor : mg "check_divisor" = some (.ref (He.ga K "check_divisor"))
  f_divided_up : ∃ fd, FunD K "divided_up" "divided_up" (defArgs s_divided_up) (defBody s_divided_up) (defScope s_divided_up) [] [] (He.ga K "divided_up") fd
  g_divided_up : mg "divided_up" = some (.ref (He.ga K "divided_up"))
  f_root_down : ∃ fd, FunD K "root_down" "root_down" (defArgs s_root_down) (defBody s_root_down) (defScope s_root_down) [] [] (He.ga K "root_down") fd
  g_root_down : mg "root_down" = some (.ref (He.ga K "root_down"))
  c_SECOND : GloOk K (ctOf K tf) mg "SECOND" (.int 100000000)
  f_divided_down : ∃ fd, FunD K "divided_down" "divided_down" (defArgs s_divided_down) (defBody s_divided_down) (defScope s_divided_down) [] [] (He.ga K "divided_down") fd
  g_divided_down : mg "divided_down" = some (.ref (He.ga K "divided_down"))
  f_root_up : ∃ fd, FunD K "root_up" "root_up" (defArgs s_root_up) (defBody s_root_up) (defScope s_root_up) [] [] (He.ga K "root_up") fd
  g_root_up : mg "root_up" = some (.ref (He.ga K "root_up"))
  f_metre_times : ∃ fd, FunD K "metre_times" "metre_times" (defArgs s_metre_times) (defBody s_metre_times) (defScope s_metre_times) [] [] (He.ga K "metre_times") fd
  g_metre_times : mg "metre_times" = some (.ref (He.ga K "metre_times"))
  f_times_between : ∃ fd, FunD K "times_between" "times_between" (defArgs s_times_between) (defBody s_times_between) (defScope s_times_between) [] [] (He.ga K "times_between") fd
  g_times_between : mg "times_between" = some (.ref (He.ga K "times_between"))
  f_passage_times : ∃ fd, FunD K "passage_times" "passage_times" (defArgs s_passage_times) (defBody s_passage_times) (defScope s_passage_times) [] [] (He.ga K "passage_times") fd
  g_passage_times : mg "passage_times" = some (.ref (He.ga K "passage_times"))
  e_InvalidTrain_NotFitting : PySem.W.exmOne K (.ref (He.ga K "InvalidTrain")) (.ref (He.ga K "NotFitting")) = some false
  e_InvalidTrain_BadNumber : PySem.W.exmOne K (.ref (He.ga K "InvalidTrain")) (.ref (He.ga K "BadNumber")) = some false
  e_InvalidLayout_NotFitting : PySem.W.exmOne K (.ref (He.ga K "InvalidLayout")) (.ref (He.ga K "NotFitting")) = some false
  e_InvalidLayout_BadNumber : PySem.W.exmOne K (.ref (He.ga K "InvalidLayout")) (.ref (He.ga K "BadNumber")) = some false
  e_CoasterError_NotFitting : PySem.W.exmOne K (.ref (He.ga K "CoasterError")) (.ref (He.ga K "NotFitting")) = some false
  g_CoasterError : mg "CoasterError" = some (.ref (He.ga K "CoasterError"))
  e_CoasterError_BadNumber : PySem.W.exmOne K (.ref (He.ga K "CoasterError")) (.ref (He.ga K "BadNumber")) = some false
  e_BadNumber_NotFitting : PySem.W.exmOne K (.ref (He.ga K "BadNumber")) (.ref (He.ga K "NotFitting")) = some false
  e_BadNumber_BadNumber : PySem.W.exmOne K (.ref (He.ga K "BadNumber")) (.ref (He.ga K "BadNumber")) = some true
  e_NotFitting_NotFitting : PySem.W.exmOne K (.ref (He.ga K "NotFitting")) (.ref (He.ga K "NotFitting")) = some true
  e_NotFitting_BadNumber : PySem.W.exmOne K (.ref (He.ga K "NotFitting")) (.ref (He.ga K "BadNumber")) = some false
  e_InvalidRide_NotFitting : PySem.W.exmOne K (.ref (He.ga K "InvalidRide")) (.ref (He.ga K "NotFitting")) = some false
  g_InvalidRide : mg "InvalidRide" = some (.ref (He.ga K "InvalidRide"))
  e_InvalidRide_BadNumber : PySem.W.exmOne K (.ref (He.ga K "InvalidRide")) (.ref (He.ga K "BadNumber")) = some false
  f_l_passage : ∃ fd, FunD K "_law_passage" "_law_passage" (defArgs s_l_passage) (defBody s_l_passage) (defScope s_l_passage) [] [] (He.ga K "_law_passage") fd
  g_l_passage : mg "_law_passage" = some (.ref (He.ga K "_law_passage"))
  b_dict : mg "dict" = none
  f_l_equal : ∃ fd, FunD K "_law_equal" "_law_equal" (defArgs s_l_equal) (defBody s_l_equal) (defScope s_l_equal) [] [] (He.ga K "_law_equal") fd
  g_l_equal : mg "_law_equal" = some (.ref (He.ga K "_law_equal"))
  c_LEAST_SCAN : GloOk K (ctOf K tf) mg "LEAST_SCAN" (.int 1000)
  c_GREATEST_SCAN : GloOk K (ctOf K tf) mg "GREATEST_SCAN" (.int 10000000)
  f_envelope_before : ∃ fd, FunD K "envelope_before" "envelope_before" (defArgs s_envelope_before) (defBody s_envelope_before) (defScope s_envelope_before) [] [] (He.ga K "envelope_before") fd
  g_envelope_before : mg "envelope_before" = some (.ref (He.ga K "envelope_before"))
  f_envelope : ∃ fd, FunD K "envelope" "envelope" (defArgs s_envelope) (defBody s_envelope) (defScope s_envelope) [] [] (He.ga K "envelope") fd
  g_envelope : mg "envelope" = some (.ref (He.ga K "envelope"))
  f_faults : ∃ fd, FunD K "faults" "faults" (defArgs s_faults) (defBody s_faults) (defScope s_faults) [] [] (He.ga K "faults") fd
  g_faults : mg "faults" = some (.ref (He.ga K "faults"))
  c_MOST_OVER : GloOk K (ctOf K tf) mg "MOST_OVER" (.int 20)
  c_MOST_AGE : GloOk K (ctOf K tf) mg "MOST_AGE" (.int 99)
  c_MOST_BLOCKS_ride : GloOk K (ctOf K tf) mg "MOST_BLOCKS_ride" (.int 12)
  x_InvalidRide : ExcF K mg (ctOf K tf) "InvalidRide"
  b_set : mg "set" = none
  cl_Ride : Cls K (He.ga K "Ride")
  na_Ride_ways : NoAttr K (He.ga K "Ride") "ways"
  na_Ride_over : NoAttr K (He.ga K "Ride") "over"
  na_Ride_trains : NoAttr K (He.ga K "Ride") "trains"
  f_Ride_init : ∃ fd, FunD K "__init__" "Ride.__init__" (defArgs s_Ride_init) (defBody s_Ride_init) (defScope s_Ride_init) [] [] (He.ma K (He.ga K "Ride") "__init__") fd
  g_Ride : mg "Ride" = some (.ref (He.ga K "Ride"))
  mk_Ride : Mk K (He.ga K "Ride") (He.ma K (He.ga K "Ride") "__init__")
  f_ride_of : ∃ fd, FunD K "ride_of" "ride_of" (defArgs s_ride_of) (defBody s_ride_of) (defScope s_ride_of) [] [] (He.ga K "ride_of") fd
  g_ride_of : mg "ride_of" = some (.ref (He.ga K "ride_of"))
  e_InvalidTrain_InvalidRide : PySem.W.exmOne K (.ref (He.ga K "InvalidTrain")) (.ref (He.ga K "InvalidRide")) = some false
  e_InvalidLayout_InvalidRide : PySem.W.exmOne K (.ref (He.ga K "InvalidLayout")) (.ref (He.ga K "InvalidRide")) = some false
  e_CoasterError_InvalidRide : PySem.W.exmOne K (.ref (He.ga K "CoasterError")) (.ref (He.ga K "InvalidRide")) = some false
  e_BadNumber_InvalidRide : PySem.W.exmOne K (.ref (He.ga K "BadNumber")) (.ref (He.ga K "InvalidRide")) = some false
  e_NotFitting_InvalidRide : PySem.W.exmOne K (.ref (He.ga K "NotFitting")) (.ref (He.ga K "InvalidRide")) = some false
  e_InvalidRide_InvalidRide : PySem.W.exmOne K (.ref (He.ga K "InvalidRide")) (.ref (He.ga K "InvalidRide")) = some true
  f_l_told : ∃ fd, FunD K "_law_told" "_law_told" (defArgs s_l_told) (defBody s_l_told) (defScope s_l_told) [] [] (He.ga K "_law_told") fd
  g_l_told : mg "_law_told" = some (.ref (He.ga K "_law_told"))
  f_l_envelope : ∃ fd, FunD K "_law_envelope" "_law_envelope" (defArgs s_l_envelope) (defBody s_l_envelope) (defScope s_l_envelope) [] [] (He.ga K "_law_envelope") fd
  g_l_envelope : mg "_law_envelope" = some (.ref (He.ga K "_law_envelope"))
  f_l_faults : ∃ fd, FunD K "_law_faults" "_law_faults" (defArgs s_l_faults) (defBody s_l_faults) (defScope s_l_faults) [] [] (He.ga K "_law_faults") fd
  g_l_faults : mg "_law_faults" = some (.ref (He.ga K "_law_faults"))
  f_law : ∃ fd, FunD K "law" "law" (defArgs s_law) (defBody s_law) (defScope s_law) [] [] (He.ga K "law") fd
  g_law : mg "law" = some (.ref (He.ga K "law"))
theorem Txt.exm {K : PySem.W.Frag} {mg : Str → Option Value} (T : Txt K mg) : ExmF K (ctOf K tf) exmT := by
  intro r c b h
  have hm : ((r, c), b) ∈ exmL := Z.lookup_mem h
  simp only [exmL, List.mem_cons, Prod.mk.injEq, List.not_mem_nil, or_false] at hm
  rcases hm with ⟨⟨rfl, rfl⟩, rfl⟩ | ⟨⟨rfl, rfl⟩, rfl⟩ | ⟨⟨rfl, rfl⟩, rfl⟩ | ⟨⟨rfl, rfl⟩, rfl⟩ | ⟨⟨rfl, rfl⟩, rfl⟩ | ⟨⟨rfl, rfl⟩, rfl⟩ | ⟨⟨rfl, rfl⟩, rfl⟩ | ⟨⟨rfl, rfl⟩, rfl⟩ | ⟨⟨rfl, rfl⟩, rfl⟩ | ⟨⟨rfl, rfl⟩, rfl⟩ | ⟨⟨rfl, rfl⟩, rfl⟩ | ⟨⟨rfl, rfl⟩, rfl⟩ | ⟨⟨rfl, rfl⟩, rfl⟩ | ⟨⟨rfl, rfl⟩, rfl⟩ | ⟨⟨rfl, rfl⟩, rfl⟩ | ⟨⟨rfl, rfl⟩, rfl⟩ | ⟨⟨rfl, rfl⟩, rfl⟩ | ⟨⟨rfl, rfl⟩, rfl⟩
  · exact T.e_InvalidTrain_NotFitting
  · exact T.e_InvalidTrain_BadNumber
  · exact T.e_InvalidLayout_NotFitting
  · exact T.e_InvalidLayout_BadNumber
  · exact T.e_CoasterError_NotFitting
  · exact T.e_CoasterError_BadNumber
  · exact T.e_BadNumber_NotFitting
  · exact T.e_BadNumber_BadNumber
  · exact T.e_NotFitting_NotFitting
  · exact T.e_NotFitting_BadNumber
  · exact T.e_InvalidRide_NotFitting
  · exact T.e_InvalidRide_BadNumber
  · exact T.e_InvalidTrain_InvalidRide
  · exact T.e_InvalidLayout_InvalidRide
  · exact T.e_CoasterError_InvalidRide
  · exact T.e_BadNumber_InvalidRide
  · exact T.e_NotFitting_InvalidRide
  · exact T.e_InvalidRide_InvalidRide
section
variable {P0 : Program} {w : World} {K : PySem.W.Frag} {mg : Str → Option Value} {base : Heap}
/-! _law_draws -/
theorem ok_l_draws (T : Txt K mg) (B : TabsOk K mg base tf) : CallF P0 w K mg base (ctOf K tf) "_law_draws" 2 1 m_l_draws := by
  obtain ⟨fd, F⟩ := T.f_l_draws
  exact ⟨_, fd, ["cell", "count"], fn_pure F sc_l_draws (fun cdv A s H E o hr tk po =>
    (zss_cons (zs_set 2 (pz_lst za_nil) sc_l_draws.nd)
    (zss_cons (zs_set 3 (pz_var 0) sc_l_draws.nd)
    (zss_cons (zs_for po rfl (zi_range1 (by rfl) T.b_range (za_cons (pz_var 1) za_nil)) (zg_name 4 sc_l_draws.nd) (zss_one (zs_if (zt_bool (zw_and (zt_cmp op_ge oz_ge (pz_var 0) (pz_pow pz_int pz_int) (nomark _)) (zw_and1 (zt_cmp op_gt oz_gt (pz_var 3) pz_int (nomark _))))) (zss_cons (zs_expr (pz_bm mz_append (pe_bm PySem.F.plainAttrs_list PySem.F.slot_list_append PySem.F.type_list_append mt_append (pz_var 2) (za_cons (pz_mod (pz_int1 (by rfl) T.b_int (za_cons (pz_var 3) za_nil)) pz_int) za_nil))))
    (zss_one (zs_set 3 (pz_fdiv (pz_var 3) pz_int) sc_l_draws.nd))) (zss_cons (zs_set 5 (pz_mod (pz_int1 (by rfl) T.b_int (za_cons (pz_add (pz_mul (pz_var 0) pz_int) (pz_mul (pz_add (pz_var 4) pz_int) pz_int)) za_nil)) pz_int) sc_l_draws.nd)
    (zss_cons (zs_set 5 (pz_mod (pz_int1 (by rfl) T.b_int (za_cons (pz_add (pz_add (pz_mul (pz_var 5) (pz_var 5)) (pz_mul (pz_var 5) pz_int)) (pz_mul (pz_var 4) pz_int)) za_nil)) pz_int) sc_l_draws.nd)
    (zss_cons (zs_set 5 (pz_mod (pz_int1 (by rfl) T.b_int (za_cons (pz_add (pz_add (pz_mul (pz_var 5) (pz_var 5)) (pz_var 0)) (pz_mul pz_int (pz_var 4))) za_nil)) pz_int) sc_l_draws.nd)
    (zss_one (zs_expr (pz_bm mz_append (pe_bm PySem.F.plainAttrs_list PySem.F.slot_list_append PySem.F.type_list_append mt_append (pz_var 2) (za_cons (pz_mod (pz_fdiv (pz_var 5) pz_int) pz_int) za_nil)))))))))))
    (zss_one (zs_ret (pz_var 2))))))), T.g_l_draws, F.kp, F.bindsN (ps := ["cell", "count"]) fun _ _ _ _ _ _ us hl => match us, hl with | [_, _], _ => rfl⟩
/-! _law_cell -/
theorem ok_l_cell (T : Txt K mg) (B : TabsOk K mg base tf) : CallF P0 w K mg base (ctOf K tf) "_law_cell" 2 1 m_l_cell := by
  obtain ⟨fd, F⟩ := T.f_l_cell
  exact ⟨_, fd, ["script", "k"], fn_pure F sc_l_cell (fun cdv A s H E o hr tk po =>
    (zss_cons (zs_if (zt_cmp op_lt oz_lt (pz_var 1) (pz_len (by rfl) T.b_len (za_cons (pz_var 0) za_nil)) (nomark _)) (zss_one (zs_ret (pz_abs (by rfl) T.b_abs (za_cons (pz_int1 (by rfl) T.b_int (za_cons (pz_ix (pz_var 0) (pz_var 1)) za_nil)) za_nil)))) zss_nil)
    (zss_one (zs_ret pz_int)))), T.g_l_cell, F.kp, F.bindsN (ps := ["script", "k"]) fun _ _ _ _ _ _ us hl => match us, hl with | [_, _], _ => rfl⟩
/-! _law_safe_rows -/
theorem ok_l_safe_rows (T : Txt K mg) (B : TabsOk K mg base tf) : CallF P0 w K mg base (ctOf K tf) "_law_safe_rows" 1 1 m_l_safe_rows := by
  obtain ⟨fd, F⟩ := T.f_l_safe_rows
  exact ⟨_, fd, ["draws"], fn_pure F sc_l_safe_rows (fun cdv A s H E o hr tk po =>
    (zss_cons (zs_set 1 (pz_add pz_int (pz_mod (pz_ix (pz_var 0) pz_int) pz_int)) sc_l_safe_rows.nd)
    (zss_cons (zs_set 2 (pz_add pz_int (pz_mod (pz_ix (pz_var 0) pz_int) pz_int)) sc_l_safe_rows.nd)
    (zss_one (zs_ret (pz_lstP (za_cons (pz_tup (za_cons pz_str (za_cons pz_int (za_cons pz_int za_nil)))) (za_cons (pz_tup (za_cons pz_str (za_cons (pz_var 1) (za_cons (pz_var 2) za_nil)))) (za_cons (pz_tup (za_cons pz_str (za_cons (pz_var 1) (za_cons (pz_sub pz_int (pz_var 2)) za_nil)))) (za_cons (pz_tup (za_cons pz_str (za_cons (pz_add pz_int (pz_mod (pz_ix (pz_var 0) pz_int) pz_int)) (za_cons pz_int za_nil)))) (za_cons (pz_tup (za_cons pz_str (za_cons (pz_add pz_int (pz_mod (pz_ix (pz_var 0) pz_int) pz_int)) (za_cons pz_int za_nil)))) (za_cons (pz_tup (za_cons pz_str (za_cons (pz_add pz_int (pz_mod (pz_ix (pz_var 0) pz_int) pz_int)) (za_cons pz_int za_nil)))) za_nil)))))))))))), T.g_l_safe_rows, F.kp, F.bindsN (ps := ["draws"]) fun _ _ _ _ _ _ us hl => match us, hl with | [_], _ => rfl⟩
/-! _law_safe_train -/
theorem ok_l_safe_train (T : Txt K mg) (B : TabsOk K mg base tf) : CallF P0 w K mg base (ctOf K tf) "_law_safe_train" 1 1 m_l_safe_train := by
  obtain ⟨fd, F⟩ := T.f_l_safe_train
  exact ⟨_, fd, ["draws"], fn_pure F sc_l_safe_train (fun cdv A s H E o hr tk po =>
    (zss_cons (zs_set 1 (pz_mod (pz_ix (pz_var 0) pz_int) pz_int) sc_l_safe_train.nd)
    (zss_cons (zs_set 2 (pz_add pz_int (pz_mul pz_int (pz_ix (pz_var 0) pz_int))) sc_l_safe_train.nd)
    (zss_one (zs_ret (pz_lstP (za_cons (pz_add pz_int (pz_mod (pz_ix (pz_var 0) pz_int) pz_int)) (za_cons (pz_tup (za_cons (pz_var 1) (za_cons (pz_add (pz_var 1) (pz_mod (pz_ix (pz_var 0) pz_int) pz_int)) za_nil))) (za_cons (pz_tup (za_cons (pz_var 2) (za_cons (pz_add (pz_var 2) (pz_mul pz_int (pz_ix (pz_var 0) pz_int))) za_nil))) (za_cons (pz_add pz_int (pz_ix (pz_var 0) pz_int)) (za_cons (pz_add pz_int (pz_ix (pz_var 0) pz_int)) za_nil))))))))))), T.g_l_safe_train, F.kp, F.bindsN (ps := ["draws"]) fun _ _ _ _ _ _ us hl => match us, hl with | [_], _ => rfl⟩
/-! _law_drawn_segments -/
theorem ok_l_drawn_segments (T : Txt K mg) (B : TabsOk K mg base tf) : CallF P0 w K mg base (ctOf K tf) "_law_drawn_segments" 2 1 m_l_drawn_segments := by
  obtain ⟨fd, F⟩ := T.f_l_drawn_segments
  exact ⟨_, fd, ["draws", "most"], fn_pure F sc_l_drawn_segments (fun cdv A s H E o hr tk po =>
    (zss_cons (zs_set 2 (pz_add pz_int (pz_mod (pz_ix (pz_var 0) pz_int) pz_int)) sc_l_drawn_segments.nd)
    (zss_cons (zs_set 3 (pz_lst za_nil) sc_l_drawn_segments.nd)
    (zss_cons (zs_set 4 pz_int sc_l_drawn_segments.nd)
    (zss_cons (zs_for po rfl (zi_range1 (by rfl) T.b_range (za_cons (pz_var 2) za_nil)) (zg_name 5 sc_l_drawn_segments.nd) (zss_cons (zs_for po rfl (zi_range1 (by rfl) T.b_range (za_cons (pz_mod (pz_ix (pz_var 0) (pz_add pz_int (pz_var 5))) pz_int) za_nil)) (zg_name 6 sc_l_drawn_segments.nd) (zss_cons (zs_set 7 (pz_ix (pz_var 0) (pz_add (pz_add pz_int (pz_mul pz_int (pz_var 5))) (pz_var 6))) sc_l_drawn_segments.nd)
    (zss_cons (zs_set 8 (pz_ix (pz_lstP (za_cons pz_str (za_cons pz_str (za_cons pz_str za_nil)))) (pz_mod (pz_var 7) pz_int)) sc_l_drawn_segments.nd)
    (zss_cons (zs_set 9 (pz_sub (pz_mod (pz_fdiv (pz_var 7) pz_int) pz_int) pz_int) sc_l_drawn_segments.nd)
    (zss_cons (zs_set 10 (pz_add pz_int (pz_mod (pz_fdiv (pz_var 7) pz_int) (pz_var 1))) sc_l_drawn_segments.nd)
    (zss_cons (zs_expr (pz_bm mz_append (pe_bm PySem.F.plainAttrs_list PySem.F.slot_list_append PySem.F.type_list_append mt_append (pz_var 3) (za_cons (pz_tup (za_cons (pz_var 8) (za_cons (pz_var 10) (za_cons (pz_var 9) za_nil)))) za_nil))))
    (zss_one (zs_set 4 (pz_add (pz_var 4) (pz_mul (pz_var 10) (pz_var 9))) sc_l_drawn_segments.nd))))))))
    (zss_cons (zs_set 11 (pz_sub (pz_mod (pz_ix (pz_var 0) (pz_add pz_int (pz_var 5))) pz_int) pz_int) sc_l_drawn_segments.nd)
    (zss_cons (zs_expr (pz_bm mz_append (pe_bm PySem.F.plainAttrs_list PySem.F.slot_list_append PySem.F.type_list_append mt_append (pz_var 3) (za_cons (pz_tup (za_cons pz_str (za_cons (pz_add pz_int (pz_mod (pz_ix (pz_var 0) (pz_add pz_int (pz_var 5))) pz_int)) (za_cons (pz_var 11) za_nil)))) za_nil))))
    (zss_one (zs_set 4 (pz_add (pz_var 4) (pz_mul (pz_ix (pz_ix (pz_var 3) (pz_neg pz_int)) pz_int) (pz_var 11))) sc_l_drawn_segments.nd))))))
    (zss_cons (zs_expr (pz_bm mz_insert (pe_bm PySem.F.plainAttrs_list PySem.F.slot_list_insert PySem.F.type_list_insert mt_insert (pz_var 3) (za_cons (pz_mod (pz_ix (pz_var 0) pz_int) (pz_len (by rfl) T.b_len (za_cons (pz_var 3) za_nil))) (za_cons (pz_tup (za_cons pz_str (za_cons (pz_ix (pz_lstP (za_cons pz_int (za_cons pz_int (za_cons pz_int (za_cons pz_int (za_cons pz_int za_nil)))))) (pz_mod (pz_ix (pz_var 0) pz_int) pz_int)) (za_cons pz_int za_nil)))) za_nil)))))
    (zss_cons (zs_set 12 (pz_neg (pz_var 4)) sc_l_drawn_segments.nd)
    (zss_cons (zs_for po rfl (zi_range1 (by rfl) T.b_range (za_cons pz_int za_nil)) (zg_name 6 sc_l_drawn_segments.nd) (zss_one (zs_if (zt_ne hr.units (pz_var 12) pz_int) (zss_cons (zs_set 9 (pz_max2 rfl (by rfl) T.b_max (za_cons (pz_neg pz_int) (za_cons (pz_min2 rfl (by rfl) T.b_min (za_cons pz_int (za_cons (pz_var 12) za_nil))) za_nil))) sc_l_drawn_segments.nd)
    (zss_cons (zs_expr (pz_bm mz_insert (pe_bm PySem.F.plainAttrs_list PySem.F.slot_list_insert PySem.F.type_list_insert mt_insert (pz_var 3) (za_cons pz_int (za_cons (pz_tup (za_cons (pz_ix (pz_lstP (za_cons (pz_ix (pz_tup (za_cons pz_str (za_cons pz_str za_nil))) (pz_int1 (by rfl) T.b_int (za_cons (pz_cmp op_gt oz_gt (pz_var 9) pz_int (nomark _)) za_nil))) (za_cons pz_str za_nil))) (pz_mod (pz_ix (pz_var 0) pz_int) pz_int)) (za_cons pz_int (za_cons (pz_var 9) za_nil)))) za_nil)))))
    (zss_one (zs_set 12 (pz_sub (pz_var 12) (pz_var 9)) sc_l_drawn_segments.nd)))) zss_nil)))
    (zss_one (zs_ret (pz_var 3))))))))))), T.g_l_drawn_segments, F.kp, F.bindsN (ps := ["draws", "most"]) fun _ _ _ _ _ _ us hl => match us, hl with | [_, _], _ => rfl⟩
/-! _law_drawn_layout -/
theorem ok_l_drawn_layout (T : Txt K mg) (B : TabsOk K mg base tf) : CallF P0 w K mg base (ctOf K tf) "_law_drawn_layout" 1 2 m_l_drawn_layout := by
  obtain ⟨fd, F⟩ := T.f_l_drawn_layout
  exact ⟨_, fd, ["draws"], fn_pure F sc_l_drawn_layout (fun cdv A s H E o hr tk po =>
    (zss_cons (zs_set 1 (pz_callF (ok_l_drawn_segments T B) hr (by omega) (by rfl) tk (za_cons (pz_var 0) (za_cons pz_int za_nil))) sc_l_drawn_layout.nd)
    (zss_cons (zs_set 2 (pz_sum rfl (by rfl) T.b_sum (za_cons (pz_lc (own := [("kind", 3), ("length", 4), ("slope", 5)]) rfl sc_l_drawn_layout.nd (zi_seq (pz_var 1)) (blkOk_by (by kernel_rfl)) (fun _ _ _ _ _ => (zg_tup rfl (zgs_cons (zg_name 3 sc_l_drawn_layout.nd) (zgs_cons (zg_name 4 sc_l_drawn_layout.nd) (zgs_cons (zg_name 5 sc_l_drawn_layout.nd) zgs_nil))))) (fun _ _ _ _ _ => zts_nil) (fun _ _ _ _ _ => (pz_mul (pz_var 4) (pz_var 5))) (by decide)) za_nil)) sc_l_drawn_layout.nd)
    (zss_cons (zs_if (zt_ne hr.units (pz_var 2) pz_int) (zss_one (zs_set 1 (pz_lstP (za_cons (pz_tup (za_cons pz_str (za_cons pz_int (za_cons pz_int za_nil)))) (za_cons (pz_tup (za_cons pz_str (za_cons pz_int (za_cons (pz_neg pz_int) za_nil)))) (za_cons (pz_tup (za_cons pz_str (za_cons pz_int (za_cons pz_int za_nil)))) (za_cons (pz_tup (za_cons pz_str (za_cons pz_int (za_cons pz_int za_nil)))) (za_cons (pz_tup (za_cons pz_str (za_cons pz_int (za_cons pz_int za_nil)))) za_nil)))))) sc_l_drawn_layout.nd)) zss_nil)
    (zss_one (zs_ret (pz_var 1))))))), T.g_l_drawn_layout, F.kp, F.bindsN (ps := ["draws"]) fun _ _ _ _ _ _ us hl => match us, hl with | [_], _ => rfl⟩
/-! _law_drawn_train -/
theorem ok_l_drawn_train (T : Txt K mg) (B : TabsOk K mg base tf) : CallF P0 w K mg base (ctOf K tf) "_law_drawn_train" 1 1 m_l_drawn_train := by
  obtain ⟨fd, F⟩ := T.f_l_drawn_train
  exact ⟨_, fd, ["draws"], fn_pure F sc_l_drawn_train (fun cdv A s H E o hr tk po =>
    (zss_cons (zs_set 1 (pz_mod (pz_ix (pz_var 0) pz_int) pz_int) sc_l_drawn_train.nd)
    (zss_cons (zs_set 2 (pz_add pz_int (pz_mul pz_int (pz_ix (pz_var 0) pz_int))) sc_l_drawn_train.nd)
    (zss_one (zs_ret (pz_lstP (za_cons (pz_add pz_int (pz_mod (pz_ix (pz_var 0) pz_int) pz_int)) (za_cons (pz_tup (za_cons (pz_var 1) (za_cons (pz_add (pz_var 1) (pz_mod (pz_ix (pz_var 0) pz_int) pz_int)) za_nil))) (za_cons (pz_tup (za_cons (pz_var 2) (za_cons (pz_add (pz_var 2) (pz_mul pz_int (pz_ix (pz_var 0) pz_int))) za_nil))) (za_cons (pz_add pz_int (pz_mul pz_int (pz_ix (pz_var 0) pz_int))) (za_cons (pz_add pz_int (pz_mul pz_int (pz_ix (pz_var 0) pz_int))) za_nil))))))))))), T.g_l_drawn_train, F.kp, F.bindsN (ps := ["draws"]) fun _ _ _ _ _ _ us hl => match us, hl with | [_], _ => rfl⟩
/-! _law_metres -/
theorem ok_l_metres (T : Txt K mg) (B : TabsOk K mg base tf) : CallF P0 w K mg base (ctOf K tf) "_law_metres" 1 1 m_l_metres := by
  obtain ⟨fd, F⟩ := T.f_l_metres
  exact ⟨_, fd, ["rows"], fn_pure F sc_l_metres (fun cdv A s H E o hr tk po =>
    (zss_cons (zs_set 1 (pz_lst za_nil) sc_l_metres.nd)
    (zss_cons (zs_set 2 pz_int sc_l_metres.nd)
    (zss_cons (zs_for po rfl (zi_seq (pz_var 0)) (zg_tup rfl (zgs_cons (zg_name 3 sc_l_metres.nd) (zgs_cons (zg_name 4 sc_l_metres.nd) (zgs_cons (zg_name 5 sc_l_metres.nd) zgs_nil)))) (zss_cons (zs_for po rfl (zi_range1 (by rfl) T.b_range (za_cons (pz_var 4) za_nil)) (zg_name 6 sc_l_metres.nd) (zss_one (zs_expr (pz_bm mz_append (pe_bm PySem.F.plainAttrs_list PySem.F.slot_list_append PySem.F.type_list_append mt_append (pz_var 1) (za_cons (pz_tup (za_cons (pz_var 3) (za_cons (pz_var 5) (za_cons (pz_var 2) za_nil)))) za_nil))))))
    (zss_one (zs_set 2 (pz_add (pz_var 2) (pz_int1 (by rfl) T.b_int (za_cons (pz_eq hr.units (pz_var 3) pz_str) za_nil))) sc_l_metres.nd))))
    (zss_one (zs_ret (pz_var 1))))))), T.g_l_metres, F.kp, F.bindsN (ps := ["rows"]) fun _ _ _ _ _ _ us hl => match us, hl with | [_], _ => rfl⟩
/-! check_segments -/
theorem ok_check_segments (T : Txt K mg) (B : TabsOk K mg base tf) : CallF P0 w K mg base (ctOf K tf) "check_segments" 1 1 m_check_segments := by
  obtain ⟨fd, F⟩ := T.f_check_segments
  exact ⟨_, fd, ["segments"], fn_pure F sc_check_segments (fun cdv A s H E o hr tk po =>
    (zss_cons (zs_for po rfl (zi_seq (pz_var 0)) (zg_tup rfl (zgs_cons (zg_name 1 sc_check_segments.nd) (zgs_cons (zg_name 2 sc_check_segments.nd) (zgs_cons (zg_name 3 sc_check_segments.nd) zgs_nil)))) (zss_one (zs_if (zt_bool (zw_or (zt_cmp or_notin (oz_in (neg := true)) (pz_var 1) (pz_glob (by rfl) T.c_KINDS) rfl) (zw_or (zt_not (zt_chain op_le oz_le op_le oz_le pz_int (pz_var 2) (pz_glob (by rfl) T.c_MOST_LENGTH_layout))) (zw_or1 (zt_not (zt_chain op_le oz_le op_le oz_le (pz_neg (pz_glob (by rfl) T.c_MOST_SLOPE)) (pz_var 3) (pz_glob (by rfl) T.c_MOST_SLOPE))))))) (zss_one (zs_raiseF T.x_InvalidLayout rfl tk rfl)) zss_nil)))
    (zss_cons (zs_if (zt_cmp op_gt oz_gt (pz_sum rfl (by rfl) T.b_sum (za_cons (pz_lc (own := [("_", 4), ("length", 2)]) rfl sc_check_segments.nd (zi_seq (pz_var 0)) (blkOk_by (by kernel_rfl)) (fun _ _ _ _ _ => (zg_tup rfl (zgs_cons (zg_name 4 sc_check_segments.nd) (zgs_cons (zg_name 2 sc_check_segments.nd) (zgs_cons (zg_name 4 sc_check_segments.nd) zgs_nil))))) (fun _ _ _ _ _ => zts_nil) (fun _ _ _ _ _ => (pz_var 2)) (by decide)) za_nil)) (pz_glob (by rfl) T.c_MOST_TOTAL) (nomark _)) (zss_one (zs_raiseF T.x_InvalidLayout rfl tk rfl)) zss_nil)
    (zss_cons (zs_if (zt_ne hr.units (pz_sum rfl (by rfl) T.b_sum (za_cons (pz_lc (own := [("_", 4), ("length", 2), ("slope", 3)]) rfl sc_check_segments.nd (zi_seq (pz_var 0)) (blkOk_by (by kernel_rfl)) (fun _ _ _ _ _ => (zg_tup rfl (zgs_cons (zg_name 4 sc_check_segments.nd) (zgs_cons (zg_name 2 sc_check_segments.nd) (zgs_cons (zg_name 3 sc_check_segments.nd) zgs_nil))))) (fun _ _ _ _ _ => zts_nil) (fun _ _ _ _ _ => (pz_mul (pz_var 2) (pz_var 3))) (by decide)) za_nil)) pz_int) (zss_one (zs_raiseF T.x_InvalidLayout rfl tk rfl)) zss_nil)
    (zss_cons (zs_if (zt_bool (zw_or (zt_eq hr.units (pz_len (by rfl) T.b_len (za_cons (pz_var 0) za_nil)) pz_int) (zw_or1 (zt_ne hr.units (pz_ix (pz_ix (pz_var 0) (pz_neg pz_int)) pz_int) pz_str)))) (zss_one (zs_raiseF T.x_InvalidLayout rfl tk rfl)) zss_nil)
    (zss_one (zs_if (zt_not (zt_chain op_le oz_le op_le oz_le pz_int (pz_len (by rfl) T.b_len (za_cons (pz_lc (own := [("kind", 1), ("_", 4)]) rfl sc_check_segments.nd (zi_seq (pz_var 0)) (blkOk_by (by kernel_rfl)) (fun _ _ _ _ _ => (zg_tup rfl (zgs_cons (zg_name 1 sc_check_segments.nd) (zgs_cons (zg_name 4 sc_check_segments.nd) (zgs_cons (zg_name 4 sc_check_segments.nd) zgs_nil))))) (fun _ _ _ _ _ => (zts_one (zt_eq hr.units (pz_var 1) pz_str))) (fun _ _ _ _ _ => (pz_var 1)) (by decide)) za_nil)) (pz_glob (by rfl) T.c_MOST_BLOCKS_layout))) (zss_one (zs_raiseF T.x_InvalidLayout rfl tk rfl)) zss_nil))))))), T.g_check_segments, F.kp, F.bindsN (ps := ["segments"]) fun _ _ _ _ _ _ us hl => match us, hl with | [_], _ => rfl⟩
/-! Layout.__init__ -/
theorem ok_Layout_init (T : Txt K mg) (B : TabsOk K mg base tf) : NewF P0 w K mg base (ctOf K tf) "Layout" 1 2 m_Layout_init := by
  obtain ⟨fd, F⟩ := T.f_Layout_init
  exact ⟨_, fd, ["self", "segments"], fn_init (n := 1) F sc_Layout_init rfl rfl (fun cdv A s H E o hr tk po =>
    (zss_cons (zs_expr (pz_callF (ok_check_segments T B) hr (by omega) (by rfl) tk (za_cons (pz_var 1) za_nil)))
    (zss_cons (zs_fld T.cl_Layout T.na_Layout_segments (pz_var 0) (pz_tuple (by rfl) T.b_tuple (za_cons (pz_var 1) za_nil)))
    (zss_cons (zs_fld T.cl_Layout T.na_Layout_metres (pz_var 0) (pz_lst za_nil))
    (zss_cons (zs_fld T.cl_Layout T.na_Layout_begins (pz_var 0) (pz_lst (za_cons pz_int za_nil)))
    (zss_cons (zs_fld T.cl_Layout T.na_Layout_brakes (pz_var 0) (pz_lst za_nil))
    (zss_cons (zs_fld T.cl_Layout T.na_Layout_heights (pz_var 0) (pz_lst (za_cons pz_int za_nil)))
    (zss_one (zs_for po rfl (zi_seq (pz_var 1)) (zg_tup rfl (zgs_cons (zg_name 2 sc_Layout_init.nd) (zgs_cons (zg_name 3 sc_Layout_init.nd) (zgs_cons (zg_name 4 sc_Layout_init.nd) zgs_nil)))) (zss_cons (zs_if (zt_eq hr.units (pz_var 2) pz_str) (zss_one (zs_expr (pz_bm mz_append (pe_bm PySem.F.plainAttrs_list PySem.F.slot_list_append PySem.F.type_list_append mt_append (pz_fld T.cl_Layout T.na_Layout_brakes (pz_var 0)) (za_cons (pz_len (by rfl) T.b_len (za_cons (pz_fld T.cl_Layout T.na_Layout_metres (pz_var 0)) za_nil)) za_nil))))) zss_nil)
    (zss_cons (zs_set 5 (pz_sub (pz_len (by rfl) T.b_len (za_cons (pz_fld T.cl_Layout T.na_Layout_begins (pz_var 0)) za_nil)) pz_int) sc_Layout_init.nd)
    (zss_cons (zs_for po rfl (zi_range1 (by rfl) T.b_range (za_cons (pz_var 3) za_nil)) (zg_name 6 sc_Layout_init.nd) (zss_cons (zs_expr (pz_bm mz_append (pe_bm PySem.F.plainAttrs_list PySem.F.slot_list_append PySem.F.type_list_append mt_append (pz_fld T.cl_Layout T.na_Layout_metres (pz_var 0)) (za_cons (pz_tup (za_cons (pz_var 2) (za_cons (pz_var 4) (za_cons (pz_var 5) za_nil)))) za_nil))))
    (zss_one (zs_expr (pz_bm mz_append (pe_bm PySem.F.plainAttrs_list PySem.F.slot_list_append PySem.F.type_list_append mt_append (pz_fld T.cl_Layout T.na_Layout_heights (pz_var 0)) (za_cons (pz_add (pz_ix (pz_fld T.cl_Layout T.na_Layout_heights (pz_var 0)) (pz_neg pz_int)) (pz_var 4)) za_nil)))))))
    (zss_one (zs_if (zt_eq hr.units (pz_var 2) pz_str) (zss_one (zs_expr (pz_bm mz_append (pe_bm PySem.F.plainAttrs_list PySem.F.slot_list_append PySem.F.type_list_append mt_append (pz_fld T.cl_Layout T.na_Layout_begins (pz_var 0)) (za_cons (pz_len (by rfl) T.b_len (za_cons (pz_fld T.cl_Layout T.na_Layout_metres (pz_var 0)) za_nil)) za_nil))))) zss_nil)))))))))))))), T.mk_Layout, T.g_Layout, F.bindsN (ps := ["self", "segments"]) fun _ _ _ _ _ _ us hl => match us, hl with | [_, _], _ => rfl⟩
/-! _law_layout -/
theorem ok_l_layout (T : Txt K mg) (B : TabsOk K mg base tf) : CallF P0 w K mg base (ctOf K tf) "_law_layout" 1 4 m_l_layout := by
  obtain ⟨fd, F⟩ := T.f_l_layout
  exact ⟨_, fd, ["rows"], fn_pure F sc_l_layout (fun cdv A s H E o hr tk po =>
    (zss_one (zs_ret (pz_newF (ok_Layout_init T B) hr (by omega) (by rfl) tk (za_cons (pz_lc (own := [("row", 1)]) rfl sc_l_layout.nd (zi_seq (pz_var 0)) (blkOk_by (by kernel_rfl)) (fun _ _ _ _ _ => (zg_name 1 sc_l_layout.nd)) (fun _ _ _ _ _ => zts_nil) (fun _ _ _ _ _ => (pz_var 1)) (by decide)) za_nil))))), T.g_l_layout, F.kp, F.bindsN (ps := ["rows"]) fun _ _ _ _ _ _ us hl => match us, hl with | [_], _ => rfl⟩
/-! is_interval -/
theorem ok_is_interval (T : Txt K mg) (B : TabsOk K mg base tf) : CallF P0 w K mg base (ctOf K tf) "is_interval" 1 1 m_is_interval := by
  obtain ⟨fd, F⟩ := T.f_is_interval
  exact ⟨_, fd, ["pair"], fn_pure F sc_is_interval (fun cdv A s H E o hr tk po =>
    (zss_one (zs_ret (pz_and (pz_eq hr.units (pz_len (by rfl) T.b_len (za_cons (pz_var 0) za_nil)) pz_int) (pz_one (pz_cmp op_le oz_le (pz_ix (pz_var 0) pz_int) (pz_ix (pz_var 0) pz_int) (nomark _))))))), T.g_is_interval, F.kp, F.bindsN (ps := ["pair"]) fun _ _ _ _ _ _ us hl => match us, hl with | [_], _ => rfl⟩
/-! Train.__init__ -/
theorem ok_Train_init (T : Txt K mg) (B : TabsOk K mg base tf) : NewF P0 w K mg base (ctOf K tf) "Train" 5 2 m_Train_init := by
  obtain ⟨fd, F⟩ := T.f_Train_init
  exact ⟨_, fd, ["self", "length", "friction", "brake", "lift", "drive"], fn_init (n := 5) F sc_Train_init rfl rfl (fun cdv A s H E o hr tk po =>
    (zss_cons (zs_if (zt_not (zt_chain op_le oz_le op_le oz_le pz_int (pz_var 1) (pz_glob (by rfl) T.c_MOST_LENGTH_train))) (zss_one (zs_raiseF T.x_InvalidTrain rfl tk rfl)) zss_nil)
    (zss_cons (zs_if (zt_bool (zw_or (zt_not (zt_val (pz_callF (ok_is_interval T B) hr (by omega) (by rfl) tk (za_cons (pz_var 2) za_nil)))) (zw_or (zt_cmp op_lt oz_lt (pz_ix (pz_var 2) pz_int) pz_int (nomark _)) (zw_or1 (zt_cmp op_gt oz_gt (pz_ix (pz_var 2) pz_int) (pz_glob (by rfl) T.c_MOST_FRICTION) (nomark _)))))) (zss_one (zs_raiseF T.x_InvalidTrain rfl tk rfl)) zss_nil)
    (zss_cons (zs_if (zt_bool (zw_or (zt_not (zt_val (pz_callF (ok_is_interval T B) hr (by omega) (by rfl) tk (za_cons (pz_var 3) za_nil)))) (zw_or (zt_cmp op_lt oz_lt (pz_ix (pz_var 3) pz_int) pz_int (nomark _)) (zw_or1 (zt_cmp op_gt oz_gt (pz_ix (pz_var 3) pz_int) (pz_glob (by rfl) T.c_MOST_BRAKE) (nomark _)))))) (zss_one (zs_raiseF T.x_InvalidTrain rfl tk rfl)) zss_nil)
    (zss_cons (zs_if (zt_bool (zw_or (zt_not (zt_chain op_le oz_le op_le oz_le pz_int (pz_var 4) (pz_glob (by rfl) T.c_MOST_ENERGY))) (zw_or1 (zt_not (zt_chain op_le oz_le op_le oz_le pz_int (pz_var 5) (pz_glob (by rfl) T.c_MOST_ENERGY)))))) (zss_one (zs_raiseF T.x_InvalidTrain rfl tk rfl)) zss_nil)
    (zss_cons (zs_fld T.cl_Train T.na_Train_length (pz_var 0) (pz_var 1))
    (zss_cons (zs_fld T.cl_Train T.na_Train_friction (pz_var 0) (pz_var 2))
    (zss_cons (zs_fld T.cl_Train T.na_Train_brake (pz_var 0) (pz_var 3))
    (zss_cons (zs_fld T.cl_Train T.na_Train_lift (pz_var 0) (pz_var 4))
    (zss_one (zs_fld T.cl_Train T.na_Train_drive (pz_var 0) (pz_var 5)))))))))))), T.mk_Train, T.g_Train, F.bindsN (ps := ["self", "length", "friction", "brake", "lift", "drive"]) fun _ _ _ _ _ _ us hl => match us, hl with | [_, _, _, _, _, _], _ => rfl⟩
/-! _law_train -/
theorem ok_l_train (T : Txt K mg) (B : TabsOk K mg base tf) : CallF P0 w K mg base (ctOf K tf) "_law_train" 1 4 m_l_train := by
  obtain ⟨fd, F⟩ := T.f_l_train
  exact ⟨_, fd, ["data"], fn_pure F sc_l_train (fun cdv A s H E o hr tk po =>
    (zss_one (zs_ret (pz_newF (ok_Train_init T B) hr (by omega) (by rfl) tk (za_cons (pz_ix (pz_var 0) pz_int) (za_cons (pz_ix (pz_var 0) pz_int) (za_cons (pz_ix (pz_var 0) pz_int) (za_cons (pz_ix (pz_var 0) pz_int) (za_cons (pz_ix (pz_var 0) pz_int) za_nil))))))))), T.g_l_train, F.kp, F.bindsN (ps := ["data"]) fun _ _ _ _ _ _ us hl => match us, hl with | [_], _ => rfl⟩
/-! _law_first_of -/
theorem ok_l_first_of (T : Txt K mg) (B : TabsOk K mg base tf) : CallF P0 w K mg base (ctOf K tf) "_law_first_of" 2 1 m_l_first_of := by
  obtain ⟨fd, F⟩ := T.f_l_first_of
  exact ⟨_, fd, ["metres", "block"], fn_pure F sc_l_first_of (fun cdv A s H E o hr tk po =>
    (zss_one (zs_ret (pz_ix (pz_lc (own := [("k", 2)]) rfl sc_l_first_of.nd (zi_range1 (by rfl) T.b_range (za_cons (pz_len (by rfl) T.b_len (za_cons (pz_var 0) za_nil)) za_nil)) (blkOk_by (by kernel_rfl)) (fun _ _ _ _ _ => (zg_name 2 sc_l_first_of.nd)) (fun _ _ _ _ _ => (zts_one (zt_eq hr.units (pz_ix (pz_ix (pz_var 0) (pz_var 2)) pz_int) (pz_var 1)))) (fun _ _ _ _ _ => (pz_var 2)) (by decide)) pz_int)))), T.g_l_first_of, F.kp, F.bindsN (ps := ["metres", "block"]) fun _ _ _ _ _ _ us hl => match us, hl with | [_, _], _ => rfl⟩
/-! _law_brake_of -/
theorem ok_l_brake_of (T : Txt K mg) (B : TabsOk K mg base tf) : CallF P0 w K mg base (ctOf K tf) "_law_brake_of" 2 1 m_l_brake_of := by
  obtain ⟨fd, F⟩ := T.f_l_brake_of
  exact ⟨_, fd, ["metres", "block"], fn_pure F sc_l_brake_of (fun cdv A s H E o hr tk po =>
    (zss_one (zs_ret (pz_ix (pz_lc (own := [("k", 2)]) rfl sc_l_brake_of.nd (zi_range1 (by rfl) T.b_range (za_cons (pz_len (by rfl) T.b_len (za_cons (pz_var 0) za_nil)) za_nil)) (blkOk_by (by kernel_rfl)) (fun _ _ _ _ _ => (zg_name 2 sc_l_brake_of.nd)) (fun _ _ _ _ _ => (zts_one (zt_bool (zw_and (zt_eq hr.units (pz_ix (pz_ix (pz_var 0) (pz_var 2)) pz_int) (pz_var 1)) (zw_and1 (zt_eq hr.units (pz_ix (pz_ix (pz_var 0) (pz_var 2)) pz_int) pz_str)))))) (fun _ _ _ _ _ => (pz_var 2)) (by decide)) pz_int)))), T.g_l_brake_of, F.kp, F.bindsN (ps := ["metres", "block"]) fun _ _ _ _ _ _ us hl => match us, hl with | [_, _], _ => rfl⟩
/-! _law_after -/
theorem ok_l_after (T : Txt K mg) (B : TabsOk K mg base tf) : CallF P0 w K mg base (ctOf K tf) "_law_after" 5 1 m_l_after := by
  obtain ⟨fd, F⟩ := T.f_l_after
  exact ⟨_, fd, ["metre", "data", "energy", "friction", "strength"], fn_pure F sc_l_after (fun cdv A s H E o hr tk po =>
    (zss_cons (zs_asgT (pz_var 0) (zg_tup rfl (zgs_cons (zg_name 5 sc_l_after.nd) (zgs_cons (zg_name 6 sc_l_after.nd) (zgs_cons (zg_name 7 sc_l_after.nd) zgs_nil)))))
    (zss_cons (zs_set 8 (pz_sub (pz_sub (pz_var 2) (pz_mul pz_int (pz_var 6))) (pz_var 3)) sc_l_after.nd)
    (zss_cons (zs_if (zt_eq hr.units (pz_var 5) pz_str) (zss_one (zs_ret (pz_max2 rfl (by rfl) T.b_max (za_cons (pz_ix (pz_var 1) pz_int) (za_cons (pz_var 8) za_nil))))) zss_nil)
    (zss_cons (zs_if (zt_bool (zw_and (zt_eq hr.units (pz_var 5) pz_str) (zw_and1 (zt_cmp op_isZ oz_is (pz_var 4) pz_non (nomark _))))) (zss_one (zs_ret (pz_max2 rfl (by rfl) T.b_max (za_cons (pz_ix (pz_var 1) pz_int) (za_cons (pz_var 8) za_nil))))) zss_nil)
    (zss_cons (zs_if (zt_eq hr.units (pz_var 5) pz_str) (zss_one (zs_set 8 (pz_sub (pz_var 8) (pz_var 4)) sc_l_after.nd)) zss_nil)
    (zss_cons (zs_if (zt_eq hr.units (pz_var 2) pz_int) (zss_one (zs_ret pz_int)) zss_nil)
    (zss_one (zs_ret (pz_max2 rfl (by rfl) T.b_max (za_cons pz_int (za_cons (pz_var 8) za_nil)))))))))))), T.g_l_after, F.kp, F.bindsN (ps := ["metre", "data", "energy", "friction", "strength"]) fun _ _ _ _ _ _ us hl => match us, hl with | [_, _, _, _, _], _ => rfl⟩
/-! _law_least -/
theorem ok_l_least (T : Txt K mg) (B : TabsOk K mg base tf) : CallF P0 w K mg base (ctOf K tf) "_law_least" 2 2 m_l_least := by
  obtain ⟨fd, F⟩ := T.f_l_least
  exact ⟨_, fd, ["metres", "data"], fn_pure F sc_l_least (fun cdv A s H E o hr tk po =>
    (zss_cons (zs_set 2 (pz_lst za_nil) sc_l_least.nd)
    (zss_cons (zs_set 3 (pz_ix (pz_var 1) pz_int) sc_l_least.nd)
    (zss_cons (zs_for po rfl (zi_range1 (by rfl) T.b_range (za_cons (pz_len (by rfl) T.b_len (za_cons (pz_var 0) za_nil)) za_nil)) (zg_name 4 sc_l_least.nd) (zss_cons (zs_if (zt_bool (zw_or (zt_eq hr.units (pz_var 4) pz_int) (zw_or1 (zt_ne hr.units (pz_ix (pz_ix (pz_var 0) (pz_var 4)) pz_int) (pz_ix (pz_ix (pz_var 0) (pz_sub (pz_var 4) pz_int)) pz_int))))) (zss_one (zs_set 3 (pz_ix (pz_var 1) pz_int) sc_l_least.nd)) zss_nil)
    (zss_cons (zs_expr (pz_bm mz_append (pe_bm PySem.F.plainAttrs_list PySem.F.slot_list_append PySem.F.type_list_append mt_append (pz_var 2) (za_cons (pz_var 3) za_nil))))
    (zss_one (zs_set 3 (pz_callF (ok_l_after T B) hr (by omega) (by rfl) tk (za_cons (pz_ix (pz_var 0) (pz_var 4)) (za_cons (pz_var 1) (za_cons (pz_var 3) (za_cons (pz_ix (pz_ix (pz_var 1) pz_int) pz_int) (za_cons pz_non za_nil)))))) sc_l_least.nd)))))
    (zss_one (zs_ret (pz_var 2))))))), T.g_l_least, F.kp, F.bindsN (ps := ["metres", "data"]) fun _ _ _ _ _ _ us hl => match us, hl with | [_, _], _ => rfl⟩
/-! _law_greatest -/
theorem ok_l_greatest (T : Txt K mg) (B : TabsOk K mg base tf) : CallF P0 w K mg base (ctOf K tf) "_law_greatest" 2 2 m_l_greatest := by
  obtain ⟨fd, F⟩ := T.f_l_greatest
  exact ⟨_, fd, ["metres", "data"], fn_pure F sc_l_greatest (fun cdv A s H E o hr tk po =>
    (zss_cons (zs_set 2 (pz_ix (pz_var 1) pz_int) sc_l_greatest.nd)
    (zss_cons (zs_for po rfl (zi_range1 (by rfl) T.b_range (za_cons pz_int za_nil)) (zg_name 3 sc_l_greatest.nd) (zss_cons (zs_set 4 (pz_lst za_nil) sc_l_greatest.nd)
    (zss_one (zs_for po rfl (zi_seq (pz_var 0)) (zg_name 5 sc_l_greatest.nd) (zss_cons (zs_expr (pz_bm mz_append (pe_bm PySem.F.plainAttrs_list PySem.F.slot_list_append PySem.F.type_list_append mt_append (pz_var 4) (za_cons (pz_var 2) za_nil))))
    (zss_one (zs_set 2 (pz_callF (ok_l_after T B) hr (by omega) (by rfl) tk (za_cons (pz_var 5) (za_cons (pz_var 1) (za_cons (pz_var 2) (za_cons (pz_ix (pz_ix (pz_var 1) pz_int) pz_int) (za_cons pz_non za_nil)))))) sc_l_greatest.nd)))))))
    (zss_one (zs_ret (pz_var 4)))))), T.g_l_greatest, F.kp, F.bindsN (ps := ["metres", "data"]) fun _ _ _ _ _ _ us hl => match us, hl with | [_, _], _ => rfl⟩
/-! _law_root -/
theorem ok_l_root (T : Txt K mg) (B : TabsOk K mg base tf) : CallF P0 w K mg base (ctOf K tf) "_law_root" 1 1 m_l_root := by
  obtain ⟨fd, F⟩ := T.f_l_root
  exact ⟨_, fd, ["number"], fn_pure F sc_l_root (fun cdv A s H E o hr tk po =>
    (zss_cons (zs_set 1 pz_int sc_l_root.nd)
    (zss_cons (zs_set 2 (pz_add (pz_var 0) pz_int) sc_l_root.nd)
    (zss_cons (zs_for po rfl (zi_range1 (by rfl) T.b_range (za_cons pz_int za_nil)) (zg_name 3 sc_l_root.nd) (zss_one (zs_if (zt_cmp op_gt oz_gt (pz_sub (pz_var 2) (pz_var 1)) pz_int (nomark _)) (zss_cons (zs_set 4 (pz_fdiv (pz_add (pz_var 1) (pz_var 2)) pz_int) sc_l_root.nd)
    (zss_one (zs_if (zt_cmp op_le oz_le (pz_mul (pz_var 4) (pz_var 4)) (pz_var 0) (nomark _)) (zss_one (zs_set 1 (pz_var 4) sc_l_root.nd)) (zss_one (zs_set 2 (pz_var 4) sc_l_root.nd))))) zss_nil)))
    (zss_one (zs_ret (pz_var 1))))))), T.g_l_root, F.kp, F.bindsN (ps := ["number"]) fun _ _ _ _ _ _ us hl => match us, hl with | [_], _ => rfl⟩
/-! _law_times -/
theorem ok_l_times (T : Txt K mg) (B : TabsOk K mg base tf) : CallF P0 w K mg base (ctOf K tf) "_law_times" 2 2 m_l_times := by
  obtain ⟨fd, F⟩ := T.f_l_times
  exact ⟨_, fd, ["low", "high"], fn_pure F sc_l_times (fun cdv A s H E o hr tk po =>
    (zss_cons (zs_set 2 (pz_callF (ok_l_root T B) hr (by omega) (by rfl) tk (za_cons (pz_var 1) za_nil)) sc_l_times.nd)
    (zss_cons (zs_if (zt_cmp op_lt oz_lt (pz_mul (pz_var 2) (pz_var 2)) (pz_var 1) (nomark _)) (zss_one (zs_set 2 (pz_add (pz_var 2) pz_int) sc_l_times.nd)) zss_nil)
    (zss_cons (zs_set 3 (pz_callF (ok_l_root T B) hr (by omega) (by rfl) tk (za_cons (pz_var 0) za_nil)) sc_l_times.nd)
    (zss_one (zs_ret (pz_tup (za_cons (pz_fdiv pz_int (pz_var 2)) (za_cons (pz_fdiv (pz_sub (pz_add pz_int (pz_var 3)) pz_int) (pz_var 3)) za_nil))))))))), T.g_l_times, F.kp, F.bindsN (ps := ["low", "high"]) fun _ _ _ _ _ _ us hl => match us, hl with | [_, _], _ => rfl⟩
/-! _law_sum_times -/
theorem ok_l_sum_times (T : Txt K mg) (B : TabsOk K mg base tf) : CallF P0 w K mg base (ctOf K tf) "_law_sum_times" 5 3 m_l_sum_times := by
  obtain ⟨fd, F⟩ := T.f_l_sum_times
  exact ⟨_, fd, ["metres", "data", "block", "first", "behind"], fn_pure F sc_l_sum_times (fun cdv A s H E o hr tk po =>
    (zss_cons (zs_set 5 (pz_callF (ok_l_least T B) hr (by omega) (by rfl) tk (za_cons (pz_var 0) (za_cons (pz_var 1) za_nil))) sc_l_sum_times.nd)
    (zss_cons (zs_set 6 (pz_callF (ok_l_greatest T B) hr (by omega) (by rfl) tk (za_cons (pz_var 0) (za_cons (pz_var 1) za_nil))) sc_l_sum_times.nd)
    (zss_cons (zs_if (zt_cmp or_in (oz_in (neg := false)) pz_int (pz_slice (pz_var 5) (zo_some (pz_callF (ok_l_first_of T B) hr (by omega) (by rfl) tk (za_cons (pz_var 0) (za_cons (pz_var 2) za_nil)))) (zo_some (pz_add (pz_callF (ok_l_brake_of T B) hr (by omega) (by rfl) tk (za_cons (pz_var 0) (za_cons (pz_var 2) za_nil))) pz_int))) rfl) (zss_one (zs_ret pz_non)) zss_nil)
    (zss_cons (zs_set 7 pz_int sc_l_sum_times.nd)
    (zss_cons (zs_set 8 pz_int sc_l_sum_times.nd)
    (zss_cons (zs_for po rfl (zi_range2 (by rfl) T.b_range (za_cons (pz_var 3) (za_cons (pz_var 4) za_nil))) (zg_name 9 sc_l_sum_times.nd) (zss_cons (zs_asgT (pz_callF (ok_l_times T B) hr (by omega) (by rfl) tk (za_cons (pz_min2 rfl (by rfl) T.b_min (za_cons (pz_ix (pz_var 5) (pz_var 9)) (za_cons (pz_ix (pz_var 5) (pz_add (pz_var 9) pz_int)) za_nil))) (za_cons (pz_max2 rfl (by rfl) T.b_max (za_cons (pz_ix (pz_var 6) (pz_var 9)) (za_cons (pz_ix (pz_var 6) (pz_add (pz_var 9) pz_int)) za_nil))) za_nil))) (zg_tup rfl (zgs_cons (zg_name 10 sc_l_sum_times.nd) (zgs_cons (zg_name 11 sc_l_sum_times.nd) zgs_nil))))
    (zss_cons (zs_set 7 (pz_add (pz_var 7) (pz_var 10)) sc_l_sum_times.nd)
    (zss_one (zs_set 8 (pz_add (pz_var 8) (pz_var 11)) sc_l_sum_times.nd)))))
    (zss_one (zs_ret (pz_tup (za_cons (pz_var 7) (za_cons (pz_var 8) za_nil)))))))))))), T.g_l_sum_times, F.kp, F.bindsN (ps := ["metres", "data", "block", "first", "behind"]) fun _ _ _ _ _ _ us hl => match us, hl with | [_, _, _, _, _], _ => rfl⟩
/-! _law_like -/
theorem ok_l_like (T : Txt K mg) (B : TabsOk K mg base tf) : ∀ j, CallF P0 w K mg base (ctOf K tf) "_law_like" 2 (1 + j) (m_l_like j)
  | 0 => by
    obtain ⟨fd, F⟩ := T.f_l_like
    exact ⟨_, fd, ["actual", "due"], fn_bad F sc_l_like, T.g_l_like, F.kp, F.bindsN (ps := ["actual", "due"]) fun _ _ _ _ _ _ us hl => match us, hl with | [_, _], _ => rfl⟩
  | j + 1 => by
    have ih := ok_l_like T B j
    obtain ⟨fd, F⟩ := T.f_l_like
    exact ⟨_, fd, ["actual", "due"], fn_pure F sc_l_like (fun cdv A s H E o hr tk po =>
    (zss_cons (zs_if (zt_cmp op_isZ oz_is (pz_var 1) pz_non (nomark _)) (zss_one (zs_ret (pz_cmp op_isZ oz_is (pz_var 0) pz_non (nomark _)))) zss_nil)
    (zss_cons (zs_if (zt_val (pz_isi kit_bool (by rfl) T.b_isinstance (by rfl) T.b_bool (by decide +kernel) (pz_var 1))) (zss_one (zs_ret (pz_and (pz_isi kit_bool (by rfl) T.b_isinstance (by rfl) T.b_bool (by decide +kernel) (pz_var 0)) (pz_one (pz_eq hr.units (pz_var 0) (pz_var 1)))))) zss_nil)
    (zss_cons (zs_if (zt_val (pz_isi kit_str (by rfl) T.b_isinstance (by rfl) T.b_str (by decide +kernel) (pz_var 1))) (zss_one (zs_ret (pz_and (pz_isi kit_str (by rfl) T.b_isinstance (by rfl) T.b_str (by decide +kernel) (pz_var 0)) (pz_one (pz_eq hr.units (pz_var 0) (pz_var 1)))))) zss_nil)
    (zss_cons (zs_if (zt_val (pz_isi kit_int (by rfl) T.b_isinstance (by rfl) T.b_int (by decide +kernel) (pz_var 1))) (zss_one (zs_ret (pz_and (pz_isi kit_int (by rfl) T.b_isinstance (by rfl) T.b_int (by decide +kernel) (pz_var 0)) (pz_and (pz_not (pz_isi kit_bool (by rfl) T.b_isinstance (by rfl) T.b_bool (by decide +kernel) (pz_var 0))) (pz_one (pz_eq hr.units (pz_var 0) (pz_var 1))))))) zss_nil)
    (zss_cons (zs_if (zt_bool (zw_or (zt_ne hr.units (pz_isi kit_list (by rfl) T.b_isinstance (by rfl) T.b_list (by decide +kernel) (pz_var 1)) (pz_isi kit_list (by rfl) T.b_isinstance (by rfl) T.b_list (by decide +kernel) (pz_var 0))) (zw_or1 (zt_ne hr.units (pz_isi kit_tuple (by rfl) T.b_isinstance (by rfl) T.b_tuple (by decide +kernel) (pz_var 1)) (pz_isi kit_tuple (by rfl) T.b_isinstance (by rfl) T.b_tuple (by decide +kernel) (pz_var 0)))))) (zss_one (zs_ret pz_bl)) zss_nil)
    (zss_cons (zs_if (zt_ne hr.units (pz_len (by rfl) T.b_len (za_cons (pz_var 0) za_nil)) (pz_len (by rfl) T.b_len (za_cons (pz_var 1) za_nil))) (zss_one (zs_ret pz_bl)) zss_nil)
    (zss_one (zs_ret (pz_all rfl (by rfl) T.b_all (za_cons (pz_lc (own := [("k", 2)]) rfl sc_l_like.nd (zi_range1 (by rfl) T.b_range (za_cons (pz_len (by rfl) T.b_len (za_cons (pz_var 1) za_nil)) za_nil)) (blkOk_by (by kernel_rfl)) (fun _ _ _ _ _ => (zg_name 2 sc_l_like.nd)) (fun _ _ _ _ _ => zts_nil) (fun _ _ _ _ _ => (pz_callF ih hr (by show _ ≤ 1 + j; omega) (by rfl) tk0 (za_cons (pz_ix (pz_var 0) (pz_var 2)) (za_cons (pz_ix (pz_var 1) (pz_var 2)) za_nil)))) (by decide)) za_nil))))))))))), T.g_l_like, F.kp, F.bindsN (ps := ["actual", "due"]) fun _ _ _ _ _ _ us hl => match us, hl with | [_, _], _ => rfl⟩
/-! Layout.check_block -/
theorem ok_Layout_check_block (T : Txt K mg) (B : TabsOk K mg base tf) : MethF P0 w K mg base (ctOf K tf) "Layout" "check_block" 2 1 m_Layout_check_block := by
  obtain ⟨fd, F⟩ := T.f_Layout_check_block
  exact ⟨_, fd, ["self", "block"], fn_pure F sc_Layout_check_block (fun cdv A s H E o hr tk po =>
    (zss_one (zs_if (zt_not (zt_chain op_le oz_le op_lt oz_lt pz_int (pz_var 1) (pz_len (by rfl) T.b_len (za_cons (pz_fld T.cl_Layout T.na_Layout_brakes (pz_var 0)) za_nil)))) (zss_one (zs_raiseF T.x_BadNumber rfl tk rfl)) zss_nil))), T.me_Layout_check_block, F.bindsN (ps := ["self", "block"]) fun _ _ _ _ _ _ us hl => match us, hl with | [_, _], _ => rfl, T.cl_Layout⟩
/-! Layout.begin -/
theorem ok_Layout_begin (T : Txt K mg) (B : TabsOk K mg base tf) : MethF P0 w K mg base (ctOf K tf) "Layout" "begin" 2 2 m_Layout_begin := by
  obtain ⟨fd, F⟩ := T.f_Layout_begin
  exact ⟨_, fd, ["self", "block"], fn_pure F sc_Layout_begin (fun cdv A s H E o hr tk po =>
    (zss_cons (zs_expr (pz_methF (ok_Layout_check_block T B) hr (by omega) tk (pz_var 0) (za_cons (pz_var 1) za_nil)))
    (zss_one (zs_ret (pz_ix (pz_fld T.cl_Layout T.na_Layout_begins (pz_var 0)) (pz_var 1)))))), T.me_Layout_begin, F.bindsN (ps := ["self", "block"]) fun _ _ _ _ _ _ us hl => match us, hl with | [_, _], _ => rfl, T.cl_Layout⟩
/-! Layout.brake -/
theorem ok_Layout_brake (T : Txt K mg) (B : TabsOk K mg base tf) : MethF P0 w K mg base (ctOf K tf) "Layout" "brake" 2 2 m_Layout_brake := by
  obtain ⟨fd, F⟩ := T.f_Layout_brake
  exact ⟨_, fd, ["self", "block"], fn_pure F sc_Layout_brake (fun cdv A s H E o hr tk po =>
    (zss_cons (zs_expr (pz_methF (ok_Layout_check_block T B) hr (by omega) tk (pz_var 0) (za_cons (pz_var 1) za_nil)))
    (zss_one (zs_ret (pz_ix (pz_fld T.cl_Layout T.na_Layout_brakes (pz_var 0)) (pz_var 1)))))), T.me_Layout_brake, F.bindsN (ps := ["self", "block"]) fun _ _ _ _ _ _ us hl => match us, hl with | [_, _], _ => rfl, T.cl_Layout⟩
/-! Layout.blocks -/
theorem ok_Layout_blocks (T : Txt K mg) (B : TabsOk K mg base tf) : MethF P0 w K mg base (ctOf K tf) "Layout" "blocks" 1 1 m_Layout_blocks := by
  obtain ⟨fd, F⟩ := T.f_Layout_blocks
  exact ⟨_, fd, ["self"], fn_pure F sc_Layout_blocks (fun cdv A s H E o hr tk po =>
    (zss_one (zs_ret (pz_len (by rfl) T.b_len (za_cons (pz_fld T.cl_Layout T.na_Layout_brakes (pz_var 0)) za_nil))))), T.me_Layout_blocks, F.bindsN (ps := ["self"]) fun _ _ _ _ _ _ us hl => match us, hl with | [_], _ => rfl, T.cl_Layout⟩
/-! Layout.end -/
theorem ok_Layout_end (T : Txt K mg) (B : TabsOk K mg base tf) : MethF P0 w K mg base (ctOf K tf) "Layout" "end" 2 2 m_Layout_end := by
  obtain ⟨fd, F⟩ := T.f_Layout_end
  exact ⟨_, fd, ["self", "block"], fn_pure F sc_Layout_end (fun cdv A s H E o hr tk po =>
    (zss_cons (zs_expr (pz_methF (ok_Layout_check_block T B) hr (by omega) tk (pz_var 0) (za_cons (pz_var 1) za_nil)))
    (zss_one (zs_ret (pz_ix (pz_fld T.cl_Layout T.na_Layout_begins (pz_var 0)) (pz_add (pz_var 1) pz_int)))))), T.me_Layout_end, F.bindsN (ps := ["self", "block"]) fun _ _ _ _ _ _ us hl => match us, hl with | [_, _], _ => rfl, T.cl_Layout⟩
/-! Layout.check_metre -/
theorem ok_Layout_check_metre (T : Txt K mg) (B : TabsOk K mg base tf) : MethF P0 w K mg base (ctOf K tf) "Layout" "check_metre" 2 1 m_Layout_check_metre := by
  obtain ⟨fd, F⟩ := T.f_Layout_check_metre
  exact ⟨_, fd, ["self", "number"], fn_pure F sc_Layout_check_metre (fun cdv A s H E o hr tk po =>
    (zss_one (zs_if (zt_not (zt_chain op_le oz_le op_lt oz_lt pz_int (pz_var 1) (pz_len (by rfl) T.b_len (za_cons (pz_fld T.cl_Layout T.na_Layout_metres (pz_var 0)) za_nil)))) (zss_one (zs_raiseF T.x_BadNumber rfl tk rfl)) zss_nil))), T.me_Layout_check_metre, F.bindsN (ps := ["self", "number"]) fun _ _ _ _ _ _ us hl => match us, hl with | [_, _], _ => rfl, T.cl_Layout⟩
/-! check_energy -/
theorem ok_check_energy (T : Txt K mg) (B : TabsOk K mg base tf) : CallF P0 w K mg base (ctOf K tf) "check_energy" 3 2 m_check_energy := by
  obtain ⟨fd, F⟩ := T.f_check_energy
  exact ⟨_, fd, ["layout", "metre", "energy"], fn_pure F sc_check_energy (fun cdv A s H E o hr tk po =>
    (zss_cons (zs_expr (pz_methF (ok_Layout_check_metre T B) hr (by omega) tk (pz_var 0) (za_cons (pz_var 1) za_nil)))
    (zss_one (zs_if (zt_cmp op_lt oz_lt (pz_var 2) pz_int (nomark _)) (zss_one (zs_raiseF T.x_BadNumber rfl tk rfl)) zss_nil)))), T.g_check_energy, F.kp, F.bindsN (ps := ["layout", "metre", "energy"]) fun _ _ _ _ _ _ us hl => match us, hl with | [_, _, _], _ => rfl⟩
/-! Layout.metre -/
theorem ok_Layout_metre (T : Txt K mg) (B : TabsOk K mg base tf) : MethF P0 w K mg base (ctOf K tf) "Layout" "metre" 2 2 m_Layout_metre := by
  obtain ⟨fd, F⟩ := T.f_Layout_metre
  exact ⟨_, fd, ["self", "number"], fn_pure F sc_Layout_metre (fun cdv A s H E o hr tk po =>
    (zss_cons (zs_expr (pz_methF (ok_Layout_check_metre T B) hr (by omega) tk (pz_var 0) (za_cons (pz_var 1) za_nil)))
    (zss_one (zs_ret (pz_ix (pz_fld T.cl_Layout T.na_Layout_metres (pz_var 0)) (pz_var 1)))))), T.me_Layout_metre, F.bindsN (ps := ["self", "number"]) fun _ _ _ _ _ _ us hl => match us, hl with | [_, _], _ => rfl, T.cl_Layout⟩
/-! after_metre -/
theorem ok_after_metre (T : Txt K mg) (B : TabsOk K mg base tf) : CallF P0 w K mg base (ctOf K tf) "after_metre" 6 3 m_after_metre := by
  obtain ⟨fd, F⟩ := T.f_after_metre
  exact ⟨_, fd, ["layout", "train", "metre", "energy", "friction", "strength"], fn_pure F sc_after_metre (fun cdv A s H E o hr tk po =>
    (zss_cons (zs_expr (pz_callF (ok_check_energy T B) hr (by omega) (by rfl) tk (za_cons (pz_var 0) (za_cons (pz_var 2) (za_cons (pz_var 3) za_nil)))))
    (zss_cons (zs_asgT (pz_methF (ok_Layout_metre T B) hr (by omega) tk (pz_var 0) (za_cons (pz_var 2) za_nil)) (zg_tup rfl (zgs_cons (zg_name 6 sc_after_metre.nd) (zgs_cons (zg_name 7 sc_after_metre.nd) (zgs_cons (zg_name 8 sc_after_metre.nd) zgs_nil)))))
    (zss_cons (zs_set 9 (pz_sub (pz_sub (pz_var 3) (pz_mul (pz_glob (by rfl) T.c_FALL) (pz_var 7))) (pz_var 4)) sc_after_metre.nd)
    (zss_cons (zs_if (zt_eq hr.units (pz_var 6) pz_str) (zss_one (zs_ret (pz_max2 rfl (by rfl) T.b_max (za_cons (pz_fld T.cl_Train T.na_Train_lift (pz_var 1)) (za_cons (pz_var 9) za_nil))))) zss_nil)
    (zss_cons (zs_if (zt_bool (zw_and (zt_eq hr.units (pz_var 6) pz_str) (zw_and1 (zt_cmp op_isZ oz_is (pz_var 5) pz_non (nomark _))))) (zss_one (zs_ret (pz_max2 rfl (by rfl) T.b_max (za_cons (pz_fld T.cl_Train T.na_Train_drive (pz_var 1)) (za_cons (pz_var 9) za_nil))))) zss_nil)
    (zss_cons (zs_if (zt_eq hr.units (pz_var 6) pz_str) (zss_one (zs_aug 9 (pz_var 5) ip_sub ipz_sub sc_after_metre.nd)) zss_nil)
    (zss_one (zs_ret (pz_if (zt_cmp op_gt oz_gt (pz_var 3) pz_int (nomark _)) (pz_max2 rfl (by rfl) T.b_max (za_cons pz_int (za_cons (pz_var 9) za_nil))) pz_int)))))))))), T.g_after_metre, F.kp, F.bindsN (ps := ["layout", "train", "metre", "energy", "friction", "strength"]) fun _ _ _ _ _ _ us hl => match us, hl with | [_, _, _, _, _, _], _ => rfl⟩
/-! Layout.total -/
theorem ok_Layout_total (T : Txt K mg) (B : TabsOk K mg base tf) : MethF P0 w K mg base (ctOf K tf) "Layout" "total" 1 1 m_Layout_total := by
  obtain ⟨fd, F⟩ := T.f_Layout_total
  exact ⟨_, fd, ["self"], fn_pure F sc_Layout_total (fun cdv A s H E o hr tk po =>
    (zss_one (zs_ret (pz_len (by rfl) T.b_len (za_cons (pz_fld T.cl_Layout T.na_Layout_metres (pz_var 0)) za_nil))))), T.me_Layout_total, F.bindsN (ps := ["self"]) fun _ _ _ _ _ _ us hl => match us, hl with | [_], _ => rfl, T.cl_Layout⟩
/-! roll -/
theorem ok_roll (T : Txt K mg) (B : TabsOk K mg base tf) : CallF P0 w K mg base (ctOf K tf) "roll" 6 4 m_roll := by
  obtain ⟨fd, F⟩ := T.f_roll
  exact ⟨_, fd, ["layout", "train", "metre", "energy", "frictions", "strengths"], fn_pure F sc_roll (fun cdv A s H E o hr tk po =>
    (zss_cons (zs_expr (pz_callF (ok_check_energy T B) hr (by omega) (by rfl) tk (za_cons (pz_var 0) (za_cons (pz_var 2) (za_cons (pz_var 3) za_nil)))))
    (zss_cons (zs_if (zt_ne hr.units (pz_len (by rfl) T.b_len (za_cons (pz_var 4) za_nil)) (pz_len (by rfl) T.b_len (za_cons (pz_var 5) za_nil))) (zss_one (zs_raiseF T.x_NotFitting rfl tk rfl)) zss_nil)
    (zss_cons (zs_set 6 (pz_lst za_nil) sc_roll.nd)
    (zss_cons (zs_for po rfl (zi_zip (by rfl) T.b_zip (za_cons (pz_var 4) (za_cons (pz_var 5) za_nil))) (zg_tup rfl (zgs_cons (zg_name 7 sc_roll.nd) (zgs_cons (zg_name 8 sc_roll.nd) zgs_nil))) (zss_cons (zs_set 3 (pz_callF (ok_after_metre T B) hr (by omega) (by rfl) tk (za_cons (pz_var 0) (za_cons (pz_var 1) (za_cons (pz_var 2) (za_cons (pz_var 3) (za_cons (pz_var 7) (za_cons (pz_var 8) za_nil))))))) sc_roll.nd)
    (zss_cons (zs_expr (pz_bm mz_append (pe_bm PySem.F.plainAttrs_list PySem.F.slot_list_append PySem.F.type_list_append mt_append (pz_var 6) (za_cons (pz_var 3) za_nil))))
    (zss_one (zs_set 2 (pz_mod (pz_add (pz_var 2) pz_int) (pz_methF0 (ok_Layout_total T B) hr (by omega) tk (pz_var 0))) sc_roll.nd)))))
    (zss_one (zs_ret (pz_var 6)))))))), T.g_roll, F.kp, F.bindsN (ps := ["layout", "train", "metre", "energy", "frictions", "strengths"]) fun _ _ _ _ _ _ us hl => match us, hl with | [_, _, _, _, _, _], _ => rfl⟩
/-! least_energies -/
theorem ok_least_energies (T : Txt K mg) (B : TabsOk K mg base tf) : CallF P0 w K mg base (ctOf K tf) "least_energies" 2 5 m_least_energies := by
  obtain ⟨fd, F⟩ := T.f_least_energies
  exact ⟨_, fd, ["layout", "train"], fn_pure F sc_least_energies (fun cdv A s H E o hr tk po =>
    (zss_cons (zs_set 2 (pz_lst za_nil) sc_least_energies.nd)
    (zss_cons (zs_for po rfl (zi_range1 (by rfl) T.b_range (za_cons (pz_methF0 (ok_Layout_blocks T B) hr (by omega) tk (pz_var 0)) za_nil)) (zg_name 3 sc_least_energies.nd) (zss_cons (zs_set 4 (pz_sub (pz_methF (ok_Layout_end T B) hr (by omega) tk (pz_var 0) (za_cons (pz_var 3) za_nil)) (pz_methF (ok_Layout_begin T B) hr (by omega) tk (pz_var 0) (za_cons (pz_var 3) za_nil))) sc_least_energies.nd)
    (zss_cons (zs_expr (pz_bm mz_append (pe_bm PySem.F.plainAttrs_list PySem.F.slot_list_append PySem.F.type_list_append mt_append (pz_var 2) (za_cons (pz_fld T.cl_Train T.na_Train_drive (pz_var 1)) za_nil))))
    (zss_cons (zs_set 5 (pz_mul (pz_lstP (za_cons (pz_ix (pz_fld T.cl_Train T.na_Train_friction (pz_var 1)) pz_int) za_nil)) (pz_var 4)) sc_least_energies.nd)
    (zss_one (zs_expr (pz_bm mz_extend (pe_bm PySem.F.plainAttrs_list PySem.F.slot_list_extend PySem.F.type_list_extend mt_extend (pz_var 2) (za_cons (pz_slice (pz_callF (ok_roll T B) hr (by omega) (by rfl) tk (za_cons (pz_var 0) (za_cons (pz_var 1) (za_cons (pz_methF (ok_Layout_begin T B) hr (by omega) tk (pz_var 0) (za_cons (pz_var 3) za_nil)) (za_cons (pz_fld T.cl_Train T.na_Train_drive (pz_var 1)) (za_cons (pz_var 5) (za_cons (pz_mul (pz_lstP (za_cons pz_non za_nil)) (pz_var 4)) za_nil))))))) zo_none (zo_some (pz_neg pz_int))) za_nil)))))))))
    (zss_one (zs_ret (pz_var 2)))))), T.g_least_energies, F.kp, F.bindsN (ps := ["layout", "train"]) fun _ _ _ _ _ _ us hl => match us, hl with | [_, _], _ => rfl⟩
/-! greatest_energies -/
theorem ok_greatest_energies (T : Txt K mg) (B : TabsOk K mg base tf) : CallF P0 w K mg base (ctOf K tf) "greatest_energies" 2 5 m_greatest_energies := by
  obtain ⟨fd, F⟩ := T.f_greatest_energies
  exact ⟨_, fd, ["layout", "train"], fn_pure F sc_greatest_energies (fun cdv A s H E o hr tk po =>
    (zss_cons (zs_set 2 (pz_methF0 (ok_Layout_total T B) hr (by omega) tk (pz_var 0)) sc_greatest_energies.nd)
    (zss_cons (zs_set 3 (pz_mul (pz_lstP (za_cons (pz_ix (pz_fld T.cl_Train T.na_Train_friction (pz_var 1)) pz_int) za_nil)) (pz_var 2)) sc_greatest_energies.nd)
    (zss_cons (zs_set 4 (pz_ix (pz_callF (ok_roll T B) hr (by omega) (by rfl) tk (za_cons (pz_var 0) (za_cons (pz_var 1) (za_cons pz_int (za_cons (pz_fld T.cl_Train T.na_Train_drive (pz_var 1)) (za_cons (pz_var 3) (za_cons (pz_mul (pz_lstP (za_cons pz_non za_nil)) (pz_var 2)) za_nil))))))) (pz_neg pz_int)) sc_greatest_energies.nd)
    (zss_one (zs_ret (pz_add (pz_lstP (za_cons (pz_var 4) za_nil)) (pz_slice (pz_callF (ok_roll T B) hr (by omega) (by rfl) tk (za_cons (pz_var 0) (za_cons (pz_var 1) (za_cons pz_int (za_cons (pz_var 4) (za_cons (pz_var 3) (za_cons (pz_mul (pz_lstP (za_cons pz_non za_nil)) (pz_var 2)) za_nil))))))) zo_none (zo_some (pz_neg pz_int)))))))))), T.g_greatest_energies, F.kp, F.bindsN (ps := ["layout", "train"]) fun _ _ _ _ _ _ us hl => match us, hl with | [_, _], _ => rfl⟩
/-! added -/
theorem ok_added (T : Txt K mg) (B : TabsOk K mg base tf) : CallF P0 w K mg base (ctOf K tf) "added" 2 1 m_added := by
  obtain ⟨fd, F⟩ := T.f_added
  exact ⟨_, fd, ["first", "second"], fn_pure F sc_added (fun cdv A s H E o hr tk po =>
    (zss_one (zs_ret (pz_tup (za_cons (pz_add (pz_ix (pz_var 0) pz_int) (pz_ix (pz_var 1) pz_int)) (za_cons (pz_add (pz_ix (pz_var 0) pz_int) (pz_ix (pz_var 1) pz_int)) za_nil)))))), T.g_added, F.kp, F.bindsN (ps := ["first", "second"]) fun _ _ _ _ _ _ us hl => match us, hl with | [_, _], _ => rfl⟩
/-! check_divisor -/
theorem ok_check_divisor (T : Txt K mg) (B : TabsOk K mg base tf) : CallF P0 w K mg base (ctOf K tf) "check_divisor" 1 1 m_check_divisor := by
  obtain ⟨fd, F⟩ := T.f_check_divisor
  exact ⟨_, fd, ["divisor"], fn_pure F sc_check_divisor (fun cdv A s H E o hr tk po =>
    (zss_one (zs_if (zt_cmp op_lt oz_lt (pz_var 0) pz_int (nomark _)) (zss_one (zs_raiseF T.x_BadNumber rfl tk rfl)) zss_nil))), T.g_check_divisor, F.kp, F.bindsN (ps := ["divisor"]) fun _ _ _ _ _ _ us hl => match us, hl with | [_], _ => rfl⟩
/-! divided_up -/
theorem ok_divided_up (T : Txt K mg) (B : TabsOk K mg base tf) : CallF P0 w K mg base (ctOf K tf) "divided_up" 2 2 m_divided_up := by
  obtain ⟨fd, F⟩ := T.f_divided_up
  exact ⟨_, fd, ["number", "divisor"], fn_pure F sc_divided_up (fun cdv A s H E o hr tk po =>
    (zss_cons (zs_expr (pz_callF (ok_check_divisor T B) hr (by omega) (by rfl) tk (za_cons (pz_var 1) za_nil)))
    (zss_one (zs_ret (pz_neg (pz_fdiv (pz_neg (pz_var 0)) (pz_var 1))))))), T.g_divided_up, F.kp, F.bindsN (ps := ["number", "divisor"]) fun _ _ _ _ _ _ us hl => match us, hl with | [_, _], _ => rfl⟩
/-! root_down -/
theorem ok_root_down (T : Txt K mg) (B : TabsOk K mg base tf) : CallF P0 w K mg base (ctOf K tf) "root_down" 1 1 m_root_down := by
  obtain ⟨fd, F⟩ := T.f_root_down
  exact ⟨_, fd, ["number"], fn_pure F sc_root_down (fun cdv A s H E o hr tk po =>
    (zss_cons (zs_if (zt_cmp op_lt oz_lt (pz_var 0) pz_int (nomark _)) (zss_one (zs_raiseF T.x_BadNumber rfl tk rfl)) zss_nil)
    (zss_cons (zs_set 1 pz_int sc_root_down.nd)
    (zss_cons (zs_set 2 (pz_shl pz_int (pz_add (pz_fdiv (pz_bits (pz_var 0)) pz_int) pz_int)) sc_root_down.nd)
    (zss_cons (zs_while po (zt_cmp op_gt oz_gt (pz_sub (pz_var 2) (pz_var 1)) pz_int (nomark _)) (zss_cons (zs_set 3 (pz_fdiv (pz_add (pz_var 1) (pz_var 2)) pz_int) sc_root_down.nd)
    (zss_one (zs_if (zt_cmp op_le oz_le (pz_mul (pz_var 3) (pz_var 3)) (pz_var 0) (nomark _)) (zss_one (zs_set 1 (pz_var 3) sc_root_down.nd)) (zss_one (zs_set 2 (pz_var 3) sc_root_down.nd))))))
    (zss_one (zs_ret (pz_var 1)))))))), T.g_root_down, F.kp, F.bindsN (ps := ["number"]) fun _ _ _ _ _ _ us hl => match us, hl with | [_], _ => rfl⟩
/-! divided_down -/
theorem ok_divided_down (T : Txt K mg) (B : TabsOk K mg base tf) : CallF P0 w K mg base (ctOf K tf) "divided_down" 2 2 m_divided_down := by
  obtain ⟨fd, F⟩ := T.f_divided_down
  exact ⟨_, fd, ["number", "divisor"], fn_pure F sc_divided_down (fun cdv A s H E o hr tk po =>
    (zss_cons (zs_expr (pz_callF (ok_check_divisor T B) hr (by omega) (by rfl) tk (za_cons (pz_var 1) za_nil)))
    (zss_one (zs_ret (pz_fdiv (pz_var 0) (pz_var 1)))))), T.g_divided_down, F.kp, F.bindsN (ps := ["number", "divisor"]) fun _ _ _ _ _ _ us hl => match us, hl with | [_, _], _ => rfl⟩
/-! root_up -/
theorem ok_root_up (T : Txt K mg) (B : TabsOk K mg base tf) : CallF P0 w K mg base (ctOf K tf) "root_up" 1 2 m_root_up := by
  obtain ⟨fd, F⟩ := T.f_root_up
  exact ⟨_, fd, ["number"], fn_pure F sc_root_up (fun cdv A s H E o hr tk po =>
    (zss_cons (zs_set 1 (pz_callF (ok_root_down T B) hr (by omega) (by rfl) tk (za_cons (pz_var 0) za_nil)) sc_root_up.nd)
    (zss_one (zs_ret (pz_if (zt_eq hr.units (pz_mul (pz_var 1) (pz_var 1)) (pz_var 0)) (pz_var 1) (pz_add (pz_var 1) pz_int)))))), T.g_root_up, F.kp, F.bindsN (ps := ["number"]) fun _ _ _ _ _ _ us hl => match us, hl with | [_], _ => rfl⟩
/-! metre_times -/
theorem ok_metre_times (T : Txt K mg) (B : TabsOk K mg base tf) : CallF P0 w K mg base (ctOf K tf) "metre_times" 2 3 m_metre_times := by
  obtain ⟨fd, F⟩ := T.f_metre_times
  exact ⟨_, fd, ["low", "high"], fn_pure F sc_metre_times (fun cdv A s H E o hr tk po =>
    (zss_cons (zs_if (zt_not (zt_chain op_le oz_le op_le oz_le pz_int (pz_var 0) (pz_var 1))) (zss_one (zs_raiseF T.x_BadNumber rfl tk rfl)) zss_nil)
    (zss_one (zs_ret (pz_tup (za_cons (pz_callF (ok_divided_down T B) hr (by omega) (by rfl) tk (za_cons (pz_glob (by rfl) T.c_SECOND) (za_cons (pz_callF (ok_root_up T B) hr (by omega) (by rfl) tk (za_cons (pz_var 1) za_nil)) za_nil))) (za_cons (pz_callF (ok_divided_up T B) hr (by omega) (by rfl) tk (za_cons (pz_glob (by rfl) T.c_SECOND) (za_cons (pz_callF (ok_root_down T B) hr (by omega) (by rfl) tk (za_cons (pz_var 0) za_nil)) za_nil))) za_nil))))))), T.g_metre_times, F.kp, F.bindsN (ps := ["low", "high"]) fun _ _ _ _ _ _ us hl => match us, hl with | [_, _], _ => rfl⟩
/-! times_between -/
theorem ok_times_between (T : Txt K mg) (B : TabsOk K mg base tf) : CallF P0 w K mg base (ctOf K tf) "times_between" 5 6 m_times_between := by
  obtain ⟨fd, F⟩ := T.f_times_between
  exact ⟨_, fd, ["layout", "train", "block", "first", "behind"], fn_pure F sc_times_between (fun cdv A s H E o hr tk po =>
    (zss_cons (zs_set 5 (pz_callF (ok_least_energies T B) hr (by omega) (by rfl) tk (za_cons (pz_var 0) (za_cons (pz_var 1) za_nil))) sc_times_between.nd)
    (zss_cons (zs_set 6 (pz_callF (ok_greatest_energies T B) hr (by omega) (by rfl) tk (za_cons (pz_var 0) (za_cons (pz_var 1) za_nil))) sc_times_between.nd)
    (zss_cons (zs_if (zt_eq hr.units (pz_minL rfl (by rfl) T.b_min (za_cons (pz_slice (pz_var 5) (zo_some (pz_methF (ok_Layout_begin T B) hr (by omega) tk (pz_var 0) (za_cons (pz_var 2) za_nil))) (zo_some (pz_add (pz_methF (ok_Layout_brake T B) hr (by omega) tk (pz_var 0) (za_cons (pz_var 2) za_nil)) pz_int))) za_nil)) pz_int) (zss_one (zs_ret pz_non)) zss_nil)
    (zss_cons (zs_set 7 (pz_tup (za_cons pz_int (za_cons pz_int za_nil))) sc_times_between.nd)
    (zss_cons (zs_for po rfl (zi_range2 (by rfl) T.b_range (za_cons (pz_var 3) (za_cons (pz_var 4) za_nil))) (zg_name 8 sc_times_between.nd) (zss_cons (zs_set 9 (pz_min2 rfl (by rfl) T.b_min (za_cons (pz_ix (pz_var 5) (pz_var 8)) (za_cons (pz_ix (pz_var 5) (pz_add (pz_var 8) pz_int)) za_nil))) sc_times_between.nd)
    (zss_one (zs_set 7 (pz_callF (ok_added T B) hr (by omega) (by rfl) tk (za_cons (pz_var 7) (za_cons (pz_callF (ok_metre_times T B) hr (by omega) (by rfl) tk (za_cons (pz_var 9) (za_cons (pz_max2 rfl (by rfl) T.b_max (za_cons (pz_ix (pz_var 6) (pz_var 8)) (za_cons (pz_ix (pz_var 6) (pz_add (pz_var 8) pz_int)) za_nil))) za_nil))) za_nil))) sc_times_between.nd))))
    (zss_one (zs_ret (pz_var 7))))))))), T.g_times_between, F.kp, F.bindsN (ps := ["layout", "train", "block", "first", "behind"]) fun _ _ _ _ _ _ us hl => match us, hl with | [_, _, _, _, _], _ => rfl⟩
/-! passage_times -/
theorem ok_passage_times (T : Txt K mg) (B : TabsOk K mg base tf) : CallF P0 w K mg base (ctOf K tf) "passage_times" 3 7 m_passage_times := by
  obtain ⟨fd, F⟩ := T.f_passage_times
  exact ⟨_, fd, ["layout", "train", "block"], fn_pure F sc_passage_times (fun cdv A s H E o hr tk po =>
    (zss_cons (zs_set 3 (pz_methF (ok_Layout_begin T B) hr (by omega) tk (pz_var 0) (za_cons (pz_var 2) za_nil)) sc_passage_times.nd)
    (zss_cons (zs_if (zt_cmp op_lt oz_lt (pz_sub (pz_methF (ok_Layout_brake T B) hr (by omega) tk (pz_var 0) (za_cons (pz_var 2) za_nil)) (pz_var 3)) (pz_fld T.cl_Train T.na_Train_length (pz_var 1)) (nomark _)) (zss_one (zs_raiseF T.x_NotFitting rfl tk rfl)) zss_nil)
    (zss_one (zs_ret (pz_callF (ok_times_between T B) hr (by omega) (by rfl) tk (za_cons (pz_var 0) (za_cons (pz_var 1) (za_cons (pz_var 2) (za_cons (pz_var 3) (za_cons (pz_add (pz_var 3) (pz_fld T.cl_Train T.na_Train_length (pz_var 1))) za_nil))))))))))), T.g_passage_times, F.kp, F.bindsN (ps := ["layout", "train", "block"]) fun _ _ _ _ _ _ us hl => match us, hl with | [_, _, _], _ => rfl⟩
/-! _law_passage -/
theorem ok_l_passage (T : Txt K mg) (B : TabsOk K mg base tf) : CallF P0 w K mg base (ctOf K tf) "_law_passage" 3 8 m_l_passage := by
  obtain ⟨fd, F⟩ := T.f_l_passage
  exact ⟨_, fd, ["layout", "train", "block"], fn_pure F sc_l_passage (fun cdv A s H E o hr tk po =>
    (zss_one (zs_try T.exm rfl rfl tk (fun W pn xe tkW po => (zss_one (zs_ret (pz_callF (ok_passage_times T B) hr (by omega) (by rfl) tkW (za_cons (pz_var 0) (za_cons (pz_var 1) (za_cons (pz_var 2) za_nil))))))) (zh_cons (by rfl) T.g_NotFitting (fun _ _ _ _ _ => (zss_one (zs_ret pz_str))) (zh_cons (by rfl) T.g_BadNumber (fun _ _ _ _ _ => (zss_one (zs_ret pz_str))) zh_nil))))), T.g_l_passage, F.kp, F.bindsN (ps := ["layout", "train", "block"]) fun _ _ _ _ _ _ us hl => match us, hl with | [_, _, _], _ => rfl⟩
/-! _law_equal -/
theorem ok_l_equal (T : Txt K mg) (B : TabsOk K mg base tf) : ∀ j, CallF P0 w K mg base (ctOf K tf) "_law_equal" 2 (1 + j) (m_l_equal j)
  | 0 => by
    obtain ⟨fd, F⟩ := T.f_l_equal
    exact ⟨_, fd, ["x", "y"], fn_bad F sc_l_equal, T.g_l_equal, F.kp, F.bindsN (ps := ["x", "y"]) fun _ _ _ _ _ _ us hl => match us, hl with | [_, _], _ => rfl⟩
  | j + 1 => by
    have ih := ok_l_equal T B j
    obtain ⟨fd, F⟩ := T.f_l_equal
    exact ⟨_, fd, ["x", "y"], fn_pure F sc_l_equal (fun cdv A s H E o hr tk po =>
    (zss_cons (zs_if (zt_bool (zw_or (zt_ne hr.units (pz_isi kit_bool (by rfl) T.b_isinstance (by rfl) T.b_bool (by decide +kernel) (pz_var 0)) (pz_isi kit_bool (by rfl) T.b_isinstance (by rfl) T.b_bool (by decide +kernel) (pz_var 1))) (zw_or (zt_ne hr.units (pz_isi kit_int (by rfl) T.b_isinstance (by rfl) T.b_int (by decide +kernel) (pz_var 0)) (pz_isi kit_int (by rfl) T.b_isinstance (by rfl) T.b_int (by decide +kernel) (pz_var 1))) (zw_or1 (zt_ne hr.units (pz_isi kit_str (by rfl) T.b_isinstance (by rfl) T.b_str (by decide +kernel) (pz_var 0)) (pz_isi kit_str (by rfl) T.b_isinstance (by rfl) T.b_str (by decide +kernel) (pz_var 1))))))) (zss_one (zs_ret pz_bl)) zss_nil)
    (zss_cons (zs_if (zt_bool (zw_or (zt_ne hr.units (pz_isi kit_list (by rfl) T.b_isinstance (by rfl) T.b_list (by decide +kernel) (pz_var 0)) (pz_isi kit_list (by rfl) T.b_isinstance (by rfl) T.b_list (by decide +kernel) (pz_var 1))) (zw_or (zt_ne hr.units (pz_isi kit_tuple (by rfl) T.b_isinstance (by rfl) T.b_tuple (by decide +kernel) (pz_var 0)) (pz_isi kit_tuple (by rfl) T.b_isinstance (by rfl) T.b_tuple (by decide +kernel) (pz_var 1))) (zw_or1 (zt_ne hr.units (pz_isi kit_dict (by rfl) T.b_isinstance (by rfl) T.b_dict (by decide +kernel) (pz_var 0)) (pz_isi kit_dict (by rfl) T.b_isinstance (by rfl) T.b_dict (by decide +kernel) (pz_var 1))))))) (zss_one (zs_ret pz_bl)) zss_nil)
    (zss_cons (zs_if (zt_bool (zw_or (zt_val (pz_isi kit_list (by rfl) T.b_isinstance (by rfl) T.b_list (by decide +kernel) (pz_var 1))) (zw_or1 (zt_val (pz_isi kit_tuple (by rfl) T.b_isinstance (by rfl) T.b_tuple (by decide +kernel) (pz_var 1)))))) (zss_one (zs_ret (pz_and (pz_eq hr.units (pz_len (by rfl) T.b_len (za_cons (pz_var 0) za_nil)) (pz_len (by rfl) T.b_len (za_cons (pz_var 1) za_nil))) (pz_one (pz_all rfl (by rfl) T.b_all (za_cons (pz_lc (own := [("k", 2)]) rfl sc_l_equal.nd (zi_range1 (by rfl) T.b_range (za_cons (pz_len (by rfl) T.b_len (za_cons (pz_var 1) za_nil)) za_nil)) (blkOk_by (by kernel_rfl)) (fun _ _ _ _ _ => (zg_name 2 sc_l_equal.nd)) (fun _ _ _ _ _ => zts_nil) (fun _ _ _ _ _ => (pz_callF ih hr (by show _ ≤ 1 + j; omega) (by rfl) tk0 (za_cons (pz_ix (pz_var 0) (pz_var 2)) (za_cons (pz_ix (pz_var 1) (pz_var 2)) za_nil)))) (by decide)) za_nil)))))) zss_nil)
    (zss_cons (zs_if (zt_val (pz_isi kit_dict (by rfl) T.b_isinstance (by rfl) T.b_dict (by decide +kernel) (pz_var 1))) (zss_one (zs_ret (pz_and (pz_eq hr.units (pz_len (by rfl) T.b_len (za_cons (pz_var 0) za_nil)) (pz_len (by rfl) T.b_len (za_cons (pz_var 1) za_nil))) (pz_one (pz_all rfl (by rfl) T.b_all (za_cons (pz_lc (own := [("key", 3)]) rfl sc_l_equal.nd (zi_seq (pz_var 1)) (blkOk_by (by kernel_rfl)) (fun _ _ _ _ _ => (zg_name 3 sc_l_equal.nd)) (fun _ _ _ _ _ => zts_nil) (fun _ _ _ _ _ => (pz_and (pz_cmp or_in (oz_in (neg := false)) (pz_var 3) (pz_var 0) rfl) (pz_one (pz_callF ih hr (by show _ ≤ 1 + j; omega) (by rfl) tk0 (za_cons (pz_ix (pz_var 0) (pz_var 3)) (za_cons (pz_ix (pz_var 1) (pz_var 3)) za_nil)))))) (by decide)) za_nil)))))) zss_nil)
    (zss_one (zs_ret (pz_cmp op_isZ oz_is (pz_eq hr.units (pz_var 0) (pz_var 1)) pz_bl (nomark _))))))))), T.g_l_equal, F.kp, F.bindsN (ps := ["x", "y"]) fun _ _ _ _ _ _ us hl => match us, hl with | [_, _], _ => rfl⟩
/-! envelope_before -/
theorem ok_envelope_before (T : Txt K mg) (B : TabsOk K mg base tf) : CallF P0 w K mg base (ctOf K tf) "envelope_before" 4 3 m_envelope_before := by
  obtain ⟨fd, F⟩ := T.f_envelope_before
  exact ⟨_, fd, ["layout", "train", "metre", "following"], fn_pure F sc_envelope_before (fun cdv A s H E o hr tk po =>
    (zss_cons (zs_asgT (pz_methF (ok_Layout_metre T B) hr (by omega) tk (pz_var 0) (za_cons (pz_var 2) za_nil)) (zg_tup rfl (zgs_cons (zg_name 4 sc_envelope_before.nd) (zgs_cons (zg_name 5 sc_envelope_before.nd) (zgs_cons (zg_name 6 sc_envelope_before.nd) zgs_nil)))))
    (zss_cons (zs_set 7 (pz_add (pz_mul (pz_glob (by rfl) T.c_FALL) (pz_var 5)) (pz_ix (pz_fld T.cl_Train T.na_Train_friction (pz_var 1)) pz_int)) sc_envelope_before.nd)
    (zss_cons (zs_if (zt_eq hr.units (pz_var 4) pz_str) (zss_one (zs_ret (pz_if (zt_bool (zw_and (zt_cmp op_le oz_le (pz_fld T.cl_Train T.na_Train_lift (pz_var 1)) (pz_var 3) (nomark _)) (zw_and1 (zt_cmp op_ge oz_ge (pz_add (pz_var 3) (pz_var 7)) pz_int (nomark _))))) (pz_add (pz_var 3) (pz_var 7)) (pz_neg pz_int)))) zss_nil)
    (zss_cons (zs_if (zt_eq hr.units (pz_var 4) pz_str) (zss_one (zs_aug 7 (pz_ix (pz_fld T.cl_Train T.na_Train_brake (pz_var 1)) pz_int) ip_add ipz_add sc_envelope_before.nd)) zss_nil)
    (zss_one (zs_ret (pz_max2 rfl (by rfl) T.b_max (za_cons pz_int (za_cons (pz_add (pz_max2 rfl (by rfl) T.b_max (za_cons pz_int (za_cons (pz_var 3) za_nil))) (pz_var 7)) za_nil)))))))))), T.g_envelope_before, F.kp, F.bindsN (ps := ["layout", "train", "metre", "following"]) fun _ _ _ _ _ _ us hl => match us, hl with | [_, _, _, _], _ => rfl⟩
/-! envelope -/
theorem ok_envelope (T : Txt K mg) (B : TabsOk K mg base tf) : CallF P0 w K mg base (ctOf K tf) "envelope" 2 4 m_envelope := by
  obtain ⟨fd, F⟩ := T.f_envelope
  exact ⟨_, fd, ["layout", "train"], fn_pure F sc_envelope (fun cdv A s H E o hr tk po =>
    (zss_cons (zs_set 2 (pz_lst za_nil) sc_envelope.nd)
    (zss_cons (zs_for po rfl (zi_range1 (by rfl) T.b_range (za_cons (pz_methF0 (ok_Layout_blocks T B) hr (by omega) tk (pz_var 0)) za_nil)) (zg_name 3 sc_envelope.nd) (zss_cons (zs_set 4 (pz_lst za_nil) sc_envelope.nd)
    (zss_cons (zs_set 5 pz_int sc_envelope.nd)
    (zss_cons (zs_for po rfl (zi_rangeD (by rfl) T.b_range (za_cons (pz_sub (pz_methF (ok_Layout_end T B) hr (by omega) tk (pz_var 0) (za_cons (pz_var 3) za_nil)) pz_int) (za_cons (pz_sub (pz_methF (ok_Layout_begin T B) hr (by omega) tk (pz_var 0) (za_cons (pz_var 3) za_nil)) pz_int) (za_cons (pz_neg pz_int) za_nil)))) (zg_name 6 sc_envelope.nd) (zss_cons (zs_set 5 (pz_callF (ok_envelope_before T B) hr (by omega) (by rfl) tk (za_cons (pz_var 0) (za_cons (pz_var 1) (za_cons (pz_var 6) (za_cons (pz_var 5) za_nil))))) sc_envelope.nd)
    (zss_one (zs_expr (pz_bm mz_append (pe_bm PySem.F.plainAttrs_list PySem.F.slot_list_append PySem.F.type_list_append mt_append (pz_var 4) (za_cons (pz_var 5) za_nil)))))))
    (zss_one (zs_expr (pz_bm mz_extend (pe_bm PySem.F.plainAttrs_list PySem.F.slot_list_extend PySem.F.type_list_extend mt_extend (pz_var 2) (za_cons (pz_rev (pz_var 4)) za_nil)))))))))
    (zss_one (zs_ret (pz_var 2)))))), T.g_envelope, F.kp, F.bindsN (ps := ["layout", "train"]) fun _ _ _ _ _ _ us hl => match us, hl with | [_, _], _ => rfl⟩
/-! faults -/
theorem ok_faults (T : Txt K mg) (B : TabsOk K mg base tf) : CallF P0 w K mg base (ctOf K tf) "faults" 2 6 m_faults := by
  obtain ⟨fd, F⟩ := T.f_faults
  exact ⟨_, fd, ["layout", "train"], fn_pure F sc_faults (fun cdv A s H E o hr tk po =>
    (zss_cons (zs_set 2 (pz_callF (ok_envelope T B) hr (by omega) (by rfl) tk (za_cons (pz_var 0) (za_cons (pz_var 1) za_nil))) sc_faults.nd)
    (zss_cons (zs_set 3 (pz_callF (ok_least_energies T B) hr (by omega) (by rfl) tk (za_cons (pz_var 0) (za_cons (pz_var 1) za_nil))) sc_faults.nd)
    (zss_cons (zs_set 4 (pz_callF (ok_greatest_energies T B) hr (by omega) (by rfl) tk (za_cons (pz_var 0) (za_cons (pz_var 1) za_nil))) sc_faults.nd)
    (zss_cons (zs_set 5 (pz_lst za_nil) sc_faults.nd)
    (zss_cons (zs_for po rfl (zi_range1 (by rfl) T.b_range (za_cons (pz_methF0 (ok_Layout_blocks T B) hr (by omega) tk (pz_var 0)) za_nil)) (zg_name 6 sc_faults.nd) (zss_cons (zs_set 7 (pz_methF (ok_Layout_begin T B) hr (by omega) tk (pz_var 0) (za_cons (pz_var 6) za_nil)) sc_faults.nd)
    (zss_cons (zs_set 8 (pz_methF (ok_Layout_brake T B) hr (by omega) tk (pz_var 0) (za_cons (pz_var 6) za_nil)) sc_faults.nd)
    (zss_cons (zs_if (zt_cmp op_lt oz_lt (pz_sub (pz_var 8) (pz_var 7)) (pz_fld T.cl_Train T.na_Train_length (pz_var 1)) (nomark _)) (zss_one (zs_expr (pz_bm mz_append (pe_bm PySem.F.plainAttrs_list PySem.F.slot_list_append PySem.F.type_list_append mt_append (pz_var 5) (za_cons (pz_tup (za_cons pz_str (za_cons (pz_var 6) za_nil))) za_nil))))) zss_nil)
    (zss_cons (zs_if (zt_eq hr.units (pz_minL rfl (by rfl) T.b_min (za_cons (pz_slice (pz_var 3) (zo_some (pz_var 7)) (zo_some (pz_add (pz_var 8) pz_int))) za_nil)) pz_int) (zss_one (zs_expr (pz_bm mz_append (pe_bm PySem.F.plainAttrs_list PySem.F.slot_list_append PySem.F.type_list_append mt_append (pz_var 5) (za_cons (pz_tup (za_cons pz_str (za_cons (pz_var 6) za_nil))) za_nil))))) zss_nil)
    (zss_one (zs_if (zt_cmp op_gt oz_gt (pz_ix (pz_var 4) (pz_var 8)) (pz_ix (pz_var 2) (pz_var 8)) (nomark _)) (zss_one (zs_expr (pz_bm mz_append (pe_bm PySem.F.plainAttrs_list PySem.F.slot_list_append PySem.F.type_list_append mt_append (pz_var 5) (za_cons (pz_tup (za_cons pz_str (za_cons (pz_var 6) za_nil))) za_nil))))) zss_nil)))))))
    (zss_one (zs_ret (pz_var 5))))))))), T.g_faults, F.kp, F.bindsN (ps := ["layout", "train"]) fun _ _ _ _ _ _ us hl => match us, hl with | [_, _], _ => rfl⟩
/-! Ride.__init__ -/
theorem ok_Ride_init (T : Txt K mg) (B : TabsOk K mg base tf) : NewF P0 w K mg base (ctOf K tf) "Ride" 3 2 m_Ride_init := by
  obtain ⟨fd, F⟩ := T.f_Ride_init
  exact ⟨_, fd, ["self", "ways", "over", "trains"], fn_initC (p := ("Ride", some "__init__")) (n := 3) F sc_Ride_init rfl rfl (fun cdv A s H E o hcd hr tk po =>
    (zss_cons (zs_if (zt_bool (zw_or (zt_not (zt_chain op_le oz_le op_le oz_le pz_int (pz_len (by rfl) T.b_len (za_cons (pz_var 1) za_nil)) (pz_glob (by rfl) T.c_MOST_BLOCKS_ride))) (zw_or1 (zt_not (zt_val (pz_allG (own := [("low", 4), ("high", 5)]) hr rfl sc_Ride_init.nd (by rfl) T.b_all (B.at ("Ride", some "__init__") (by decide +kernel)) hcd (tab_mem ("Ride", some "__init__") (by decide +kernel)) (zi_seq (pz_var 1)) (blkOk_by (by kernel_rfl)) (by decide +kernel) rfl rfl (fun _ _ _ _ _ _ hr => (zg_tup rfl (zgs_cons (zg_name 4 sc_Ride_init.nd) (zgs_cons (zg_name 5 sc_Ride_init.nd) zgs_nil)))) (fun _ _ _ _ _ _ hr => (pz_chain3 op_le oz_le op_le oz_le op_le oz_le pz_int (pz_var 4) (pz_var 5) (pz_glob (by rfl) T.c_MOST_AGE))) (by decide))))))) (zss_one (zs_raiseF T.x_InvalidRide rfl tk rfl)) zss_nil)
    (zss_cons (zs_if (zt_not (zt_chain op_le oz_le op_le oz_le pz_int (pz_var 2) (pz_glob (by rfl) T.c_MOST_OVER))) (zss_one (zs_raiseF T.x_InvalidRide rfl tk rfl)) zss_nil)
    (zss_cons (zs_if (zt_bool (zw_or (zt_not (zt_chain op_le oz_le op_lt oz_lt pz_int (pz_len (by rfl) T.b_len (za_cons (pz_var 3) za_nil)) (pz_len (by rfl) T.b_len (za_cons (pz_var 1) za_nil)))) (zw_or1 (zt_ne hr.units (pz_setLen rfl (by rfl) T.b_len (by rfl) T.b_set (pz_var 3)) (pz_len (by rfl) T.b_len (za_cons (pz_var 3) za_nil)))))) (zss_one (zs_raiseF T.x_InvalidRide rfl tk rfl)) zss_nil)
    (zss_cons (zs_if (zt_not (zt_val (pz_allG (own := [("block", 6)]) hr rfl sc_Ride_init.nd (by rfl) T.b_all (B.at ("Ride", some "__init__") (by decide +kernel)) hcd (tab_mem ("Ride", some "__init__") (by decide +kernel)) (zi_seq (pz_var 3)) (blkOk_by (by kernel_rfl)) (by decide +kernel) rfl rfl (fun _ _ _ _ _ _ hr => (zg_name 6 sc_Ride_init.nd)) (fun _ _ _ _ _ _ hr => (pz_chain op_le oz_le op_lt oz_lt pz_int (pz_var 6) (pz_len (by rfl) T.b_len (za_cons (pz_var 1) za_nil)))) (by decide)))) (zss_one (zs_raiseF T.x_InvalidRide rfl tk rfl)) zss_nil)
    (zss_cons (zs_fld T.cl_Ride T.na_Ride_ways (pz_var 0) (pz_tuple (by rfl) T.b_tuple (za_cons (pz_var 1) za_nil)))
    (zss_cons (zs_fld T.cl_Ride T.na_Ride_over (pz_var 0) (pz_var 2))
    (zss_one (zs_fld T.cl_Ride T.na_Ride_trains (pz_var 0) (pz_tuple (by rfl) T.b_tuple (za_cons (pz_var 3) za_nil))))))))))), T.mk_Ride, T.g_Ride, F.bindsN (ps := ["self", "ways", "over", "trains"]) fun _ _ _ _ _ _ us hl => match us, hl with | [_, _, _, _], _ => rfl⟩
/-! ride_of -/
theorem ok_ride_of (T : Txt K mg) (B : TabsOk K mg base tf) : CallF P0 w K mg base (ctOf K tf) "ride_of" 4 8 m_ride_of := by
  obtain ⟨fd, F⟩ := T.f_ride_of
  exact ⟨_, fd, ["layout", "train", "scan", "trains"], fn_pure F sc_ride_of (fun cdv A s H E o hr tk po =>
    (zss_cons (zs_if (zt_not (zt_chain op_le oz_le op_le oz_le (pz_glob (by rfl) T.c_LEAST_SCAN) (pz_var 2) (pz_glob (by rfl) T.c_GREATEST_SCAN))) (zss_one (zs_raiseF T.x_BadNumber rfl tk rfl)) zss_nil)
    (zss_cons (zs_if (zt_cmp op_gt oz_gt (pz_len (by rfl) T.b_len (za_cons (pz_callF (ok_faults T B) hr (by omega) (by rfl) tk (za_cons (pz_var 0) (za_cons (pz_var 1) za_nil))) za_nil)) pz_int (nomark _)) (zss_one (zs_raiseF T.x_NotFitting rfl tk rfl)) zss_nil)
    (zss_cons (zs_set 4 (pz_lst za_nil) sc_ride_of.nd)
    (zss_cons (zs_set 5 pz_int sc_ride_of.nd)
    (zss_cons (zs_for po rfl (zi_range1 (by rfl) T.b_range (za_cons (pz_methF0 (ok_Layout_blocks T B) hr (by omega) tk (pz_var 0)) za_nil)) (zg_name 6 sc_ride_of.nd) (zss_cons (zs_set 7 (pz_add (pz_methF (ok_Layout_begin T B) hr (by omega) tk (pz_var 0) (za_cons (pz_var 6) za_nil)) (pz_fld T.cl_Train T.na_Train_length (pz_var 1))) sc_ride_of.nd)
    (zss_cons (zs_asgT (pz_callF (ok_times_between T B) hr (by omega) (by rfl) tk (za_cons (pz_var 0) (za_cons (pz_var 1) (za_cons (pz_var 6) (za_cons (pz_var 7) (za_cons (pz_methF (ok_Layout_brake T B) hr (by omega) tk (pz_var 0) (za_cons (pz_var 6) za_nil)) za_nil)))))) (zg_tup rfl (zgs_cons (zg_name 8 sc_ride_of.nd) (zgs_cons (zg_name 9 sc_ride_of.nd) zgs_nil))))
    (zss_cons (zs_expr (pz_bm mz_append (pe_bm PySem.F.plainAttrs_list PySem.F.slot_list_append PySem.F.type_list_append mt_append (pz_var 4) (za_cons (pz_tup (za_cons (pz_max2 rfl (by rfl) T.b_max (za_cons pz_int (za_cons (pz_fdiv (pz_var 8) (pz_var 2)) za_nil))) (za_cons (pz_add (pz_fdiv (pz_var 9) (pz_var 2)) pz_int) za_nil))) za_nil))))
    (zss_cons (zs_asgT (pz_callF (ok_passage_times T B) hr (by omega) (by rfl) tk (za_cons (pz_var 0) (za_cons (pz_var 1) (za_cons (pz_var 6) za_nil)))) (zg_tup rfl (zgs_cons (zg_name 8 sc_ride_of.nd) (zgs_cons (zg_name 9 sc_ride_of.nd) zgs_nil))))
    (zss_cons (zs_if (zt_cmp op_lt oz_lt (pz_var 8) (pz_var 2) (nomark _)) (zss_one (zs_raiseF T.x_NotFitting rfl tk rfl)) zss_nil)
    (zss_one (zs_set 5 (pz_max2 rfl (by rfl) T.b_max (za_cons (pz_var 5) (za_cons (pz_add (pz_fdiv (pz_var 9) (pz_var 2)) pz_int) za_nil))) sc_ride_of.nd))))))))
    (zss_cons (zs_if (zt_bool (zw_or (zt_cmp op_gt oz_gt (pz_var 5) (pz_glob (by rfl) T.c_MOST_OVER) (nomark _)) (zw_or1 (zt_cmp op_gt oz_gt (pz_maxL rfl (by rfl) T.b_max (za_cons (pz_lc (own := [("_", 10), ("most", 11)]) rfl sc_ride_of.nd (zi_seq (pz_var 4)) (blkOk_by (by kernel_rfl)) (fun _ _ _ _ _ => (zg_tup rfl (zgs_cons (zg_name 10 sc_ride_of.nd) (zgs_cons (zg_name 11 sc_ride_of.nd) zgs_nil)))) (fun _ _ _ _ _ => zts_nil) (fun _ _ _ _ _ => (pz_var 11)) (by decide)) za_nil)) (pz_glob (by rfl) T.c_MOST_AGE) (nomark _))))) (zss_one (zs_raiseF T.x_NotFitting rfl tk rfl)) zss_nil)
    (zss_one (zs_ret (pz_newF (ok_Ride_init T B) hr (by omega) (by rfl) tk (za_cons (pz_var 4) (za_cons (pz_var 5) (za_cons (pz_var 3) za_nil))))))))))))), T.g_ride_of, F.kp, F.bindsN (ps := ["layout", "train", "scan", "trains"]) fun _ _ _ _ _ _ us hl => match us, hl with | [_, _, _, _], _ => rfl⟩
/-! _law_told -/
theorem ok_l_told (T : Txt K mg) (B : TabsOk K mg base tf) : CallF P0 w K mg base (ctOf K tf) "_law_told" 4 9 m_l_told := by
  obtain ⟨fd, F⟩ := T.f_l_told
  exact ⟨_, fd, ["layout", "train", "scan", "trains"], fn_pure F sc_l_told (fun cdv A s H E o hr tk po =>
    (zss_cons (zs_setLc 4 (own := [("row", 5)]) rfl sc_l_told.nd (zi_seq (pz_var 3)) (blkOk_by (by kernel_rfl)) (fun _ _ _ _ _ => (zg_name 5 sc_l_told.nd)) (fun _ _ _ _ _ => zts_nil) (fun _ _ _ _ _ => (pz_var 5)) (by decide) (sw_true rfl rfl rfl (by decide +kernel)))
    (zss_cons (zs_try T.exm rfl rfl tk (fun W pn xe tkW po => (zss_cons (zs_set 6 (pz_callF (ok_ride_of T B) hr (by omega) (by rfl) tkW (za_cons (pz_var 0) (za_cons (pz_var 1) (za_cons (pz_var 2) (za_cons (pz_var 3) za_nil))))) sc_l_told.nd)
    (zss_one (zs_if (zt_ne hr.units (pz_lc (own := [("row", 5)]) rfl sc_l_told.nd (zi_seq (pz_var 3)) (blkOk_by (by kernel_rfl)) (fun _ _ _ _ _ => (zg_name 5 sc_l_told.nd)) (fun _ _ _ _ _ => zts_nil) (fun _ _ _ _ _ => (pz_var 5)) (by decide)) (pz_var 4)) (zss_one (zs_ret pz_str)) zss_nil)))) (zh_cons (by rfl) T.g_BadNumber (fun _ _ _ _ _ => (zss_one (zs_ret pz_str))) (zh_cons (by rfl) T.g_NotFitting (fun _ _ _ _ _ => (zss_one (zs_ret pz_str))) (zh_cons (by rfl) T.g_InvalidRide (fun _ _ _ _ _ => (zss_one (zs_ret pz_str))) zh_nil))))
    (zss_one (zs_ret (pz_tup (za_cons (pz_fld T.cl_Ride T.na_Ride_ways (pz_var 6)) (za_cons (pz_fld T.cl_Ride T.na_Ride_over (pz_var 6)) (za_cons (pz_fld T.cl_Ride T.na_Ride_trains (pz_var 6)) za_nil))))))))), T.g_l_told, F.kp, F.bindsN (ps := ["layout", "train", "scan", "trains"]) fun _ _ _ _ _ _ us hl => match us, hl with | [_, _, _, _], _ => rfl⟩
/-! _law_envelope -/
theorem ok_l_envelope (T : Txt K mg) (B : TabsOk K mg base tf) : CallF P0 w K mg base (ctOf K tf) "_law_envelope" 2 1 m_l_envelope := by
  obtain ⟨fd, F⟩ := T.f_l_envelope
  exact ⟨_, fd, ["metres", "data"], fn_pure F sc_l_envelope (fun cdv A s H E o hr tk po =>
    (zss_cons (zs_set 2 (pz_lst za_nil) sc_l_envelope.nd)
    (zss_cons (zs_set 3 pz_int sc_l_envelope.nd)
    (zss_cons (zs_for po rfl (zi_rangeD (by rfl) T.b_range (za_cons (pz_sub (pz_len (by rfl) T.b_len (za_cons (pz_var 0) za_nil)) pz_int) (za_cons (pz_neg pz_int) (za_cons (pz_neg pz_int) za_nil)))) (zg_name 4 sc_l_envelope.nd) (zss_cons (zs_asgT (pz_ix (pz_var 0) (pz_var 4)) (zg_tup rfl (zgs_cons (zg_name 5 sc_l_envelope.nd) (zgs_cons (zg_name 6 sc_l_envelope.nd) (zgs_cons (zg_name 7 sc_l_envelope.nd) zgs_nil)))))
    (zss_cons (zs_if (zt_bool (zw_or (zt_eq hr.units (pz_var 4) (pz_sub (pz_len (by rfl) T.b_len (za_cons (pz_var 0) za_nil)) pz_int)) (zw_or1 (zt_ne hr.units (pz_ix (pz_ix (pz_var 0) (pz_add (pz_var 4) pz_int)) pz_int) (pz_var 7))))) (zss_one (zs_set 3 pz_int sc_l_envelope.nd)) zss_nil)
    (zss_cons (zs_set 8 (pz_add (pz_mul pz_int (pz_var 6)) (pz_ix (pz_ix (pz_var 1) pz_int) pz_int)) sc_l_envelope.nd)
    (zss_cons (zs_if (zt_eq hr.units (pz_var 5) pz_str) (zss_one (zs_if (zt_bool (zw_and (zt_cmp op_le oz_le (pz_ix (pz_var 1) pz_int) (pz_var 3) (nomark _)) (zw_and1 (zt_cmp op_ge oz_ge (pz_add (pz_var 3) (pz_var 8)) pz_int (nomark _))))) (zss_one (zs_set 3 (pz_add (pz_var 3) (pz_var 8)) sc_l_envelope.nd)) (zss_one (zs_set 3 (pz_neg pz_int) sc_l_envelope.nd)))) (zss_one (zs_set 3 (pz_max2 rfl (by rfl) T.b_max (za_cons pz_int (za_cons (pz_add (pz_add (pz_max2 rfl (by rfl) T.b_max (za_cons pz_int (za_cons (pz_var 3) za_nil))) (pz_var 8)) (pz_ix (pz_lstP (za_cons pz_int (za_cons (pz_ix (pz_ix (pz_var 1) pz_int) pz_int) za_nil))) (pz_int1 (by rfl) T.b_int (za_cons (pz_eq hr.units (pz_var 5) pz_str) za_nil)))) za_nil))) sc_l_envelope.nd)))
    (zss_one (zs_expr (pz_bm mz_insert (pe_bm PySem.F.plainAttrs_list PySem.F.slot_list_insert PySem.F.type_list_insert mt_insert (pz_var 2) (za_cons pz_int (za_cons (pz_var 3) za_nil)))))))))))
    (zss_one (zs_ret (pz_var 2))))))), T.g_l_envelope, F.kp, F.bindsN (ps := ["metres", "data"]) fun _ _ _ _ _ _ us hl => match us, hl with | [_, _], _ => rfl⟩
/-! _law_faults -/
theorem ok_l_faults (T : Txt K mg) (B : TabsOk K mg base tf) : CallF P0 w K mg base (ctOf K tf) "_law_faults" 2 3 m_l_faults := by
  obtain ⟨fd, F⟩ := T.f_l_faults
  exact ⟨_, fd, ["metres", "data"], fn_pure F sc_l_faults (fun cdv A s H E o hr tk po =>
    (zss_cons (zs_set 2 (pz_callF (ok_l_least T B) hr (by omega) (by rfl) tk (za_cons (pz_var 0) (za_cons (pz_var 1) za_nil))) sc_l_faults.nd)
    (zss_cons (zs_set 3 (pz_callF (ok_l_greatest T B) hr (by omega) (by rfl) tk (za_cons (pz_var 0) (za_cons (pz_var 1) za_nil))) sc_l_faults.nd)
    (zss_cons (zs_set 4 (pz_callF (ok_l_envelope T B) hr (by omega) (by rfl) tk (za_cons (pz_var 0) (za_cons (pz_var 1) za_nil))) sc_l_faults.nd)
    (zss_cons (zs_set 5 (pz_lst za_nil) sc_l_faults.nd)
    (zss_cons (zs_for po rfl (zi_range1 (by rfl) T.b_range (za_cons (pz_add (pz_ix (pz_ix (pz_var 0) (pz_neg pz_int)) pz_int) pz_int) za_nil)) (zg_name 6 sc_l_faults.nd) (zss_cons (zs_set 7 (pz_callF (ok_l_first_of T B) hr (by omega) (by rfl) tk (za_cons (pz_var 0) (za_cons (pz_var 6) za_nil))) sc_l_faults.nd)
    (zss_cons (zs_set 8 (pz_callF (ok_l_brake_of T B) hr (by omega) (by rfl) tk (za_cons (pz_var 0) (za_cons (pz_var 6) za_nil))) sc_l_faults.nd)
    (zss_cons (zs_if (zt_cmp op_lt oz_lt (pz_sub (pz_var 8) (pz_var 7)) (pz_ix (pz_var 1) pz_int) (nomark _)) (zss_one (zs_expr (pz_bm mz_append (pe_bm PySem.F.plainAttrs_list PySem.F.slot_list_append PySem.F.type_list_append mt_append (pz_var 5) (za_cons (pz_tup (za_cons pz_str (za_cons (pz_var 6) za_nil))) za_nil))))) zss_nil)
    (zss_cons (zs_if (zt_cmp or_in (oz_in (neg := false)) pz_int (pz_slice (pz_var 2) (zo_some (pz_var 7)) (zo_some (pz_add (pz_var 8) pz_int))) rfl) (zss_one (zs_expr (pz_bm mz_append (pe_bm PySem.F.plainAttrs_list PySem.F.slot_list_append PySem.F.type_list_append mt_append (pz_var 5) (za_cons (pz_tup (za_cons pz_str (za_cons (pz_var 6) za_nil))) za_nil))))) zss_nil)
    (zss_one (zs_if (zt_cmp op_gt oz_gt (pz_ix (pz_var 3) (pz_var 8)) (pz_ix (pz_var 4) (pz_var 8)) (nomark _)) (zss_one (zs_expr (pz_bm mz_append (pe_bm PySem.F.plainAttrs_list PySem.F.slot_list_append PySem.F.type_list_append mt_append (pz_var 5) (za_cons (pz_tup (za_cons pz_str (za_cons (pz_var 6) za_nil))) za_nil))))) zss_nil)))))))
    (zss_one (zs_ret (pz_var 5))))))))), T.g_l_faults, F.kp, F.bindsN (ps := ["metres", "data"]) fun _ _ _ _ _ _ us hl => match us, hl with | [_, _], _ => rfl⟩
/-! law -/
theorem ok_law (T : Txt K mg) : ∃ fd, (∀ (s : Shared) (v : Value), BindsTo s fd ⟨[v], []⟩ [("script", v)]) ∧ ∀ base : Heap, TabsOk K mg base tf → FnOk P0 w K mg base (L2.CX P0 w) 10 (He.ga K "law") fd ["script"] (spP K (ctOf K tf) 1 m_law) := by
  obtain ⟨fd, F⟩ := T.f_law
  exact ⟨fd, fun s v => F.bindsA (ps := ["script"]) (fun _ _ _ _ _ _ us hl => match us, hl with | [_], _ => rfl) s [v] rfl, fun base B => fn_pure F sc_law (fun cdv A s H E o hr tk po =>
    (zss_cons (zs_set 1 (pz_callF (ok_l_draws T B) hr (by omega) (by rfl) tk (za_cons (pz_callF (ok_l_cell T B) hr (by omega) (by rfl) tk (za_cons (pz_var 0) (za_cons pz_int za_nil))) (za_cons pz_int za_nil))) sc_law.nd)
    (zss_cons (zs_set 2 (pz_callF (ok_l_safe_rows T B) hr (by omega) (by rfl) tk (za_cons (pz_var 1) za_nil)) sc_law.nd)
    (zss_cons (zs_set 3 (pz_callF (ok_l_safe_train T B) hr (by omega) (by rfl) tk (za_cons (pz_var 1) za_nil)) sc_law.nd)
    (zss_cons (zs_if (zt_eq hr.units (pz_mod (pz_ix (pz_var 1) pz_int) pz_int) pz_int) (zss_cons (zs_set 2 (pz_callF (ok_l_drawn_layout T B) hr (by omega) (by rfl) tk (za_cons (pz_var 1) za_nil)) sc_law.nd)
    (zss_one (zs_set 3 (pz_callF (ok_l_drawn_train T B) hr (by omega) (by rfl) tk (za_cons (pz_var 1) za_nil)) sc_law.nd))) zss_nil)
    (zss_cons (zs_set 4 (pz_callF (ok_l_metres T B) hr (by omega) (by rfl) tk (za_cons (pz_var 2) za_nil)) sc_law.nd)
    (zss_cons (zs_set 5 (pz_callF (ok_l_layout T B) hr (by omega) (by rfl) tk (za_cons (pz_var 2) za_nil)) sc_law.nd)
    (zss_cons (zs_set 6 (pz_callF (ok_l_train T B) hr (by omega) (by rfl) tk (za_cons (pz_var 3) za_nil)) sc_law.nd)
    (zss_cons (zs_set 7 (pz_add (pz_ix (pz_ix (pz_var 4) (pz_neg pz_int)) pz_int) pz_int) sc_law.nd)
    (zss_cons (zs_set 8 (pz_ix (pz_lstP (za_cons (pz_add pz_int (pz_ix (pz_var 1) pz_int)) (za_cons (pz_add pz_int (pz_mul pz_int (pz_ix (pz_var 1) pz_int))) (za_cons (pz_add pz_int (pz_mul pz_int (pz_ix (pz_var 1) pz_int))) (za_cons pz_int za_nil))))) (pz_mod (pz_ix (pz_var 1) pz_int) pz_int)) sc_law.nd)
    (zss_cons (zs_set 9 (pz_lst za_nil) sc_law.nd)
    (zss_cons (zs_set 10 pz_int sc_law.nd)
    (zss_cons (zs_set 11 pz_bl sc_law.nd)
    (zss_cons (zs_for po rfl (zi_range1 (by rfl) T.b_range (za_cons (pz_var 7) za_nil)) (zg_name 12 sc_law.nd) (zss_cons (zs_set 13 (pz_callF (ok_l_first_of T B) hr (by omega) (by rfl) tk (za_cons (pz_var 4) (za_cons (pz_var 12) za_nil))) sc_law.nd)
    (zss_cons (zs_set 14 (pz_callF (ok_l_brake_of T B) hr (by omega) (by rfl) tk (za_cons (pz_var 4) (za_cons (pz_var 12) za_nil))) sc_law.nd)
    (zss_cons (zs_set 15 pz_str sc_law.nd)
    (zss_cons (zs_if (zt_cmp op_ge oz_ge (pz_sub (pz_var 14) (pz_var 13)) (pz_ix (pz_var 3) pz_int) (nomark _)) (zss_one (zs_set 15 (pz_callF (ok_l_sum_times T B) hr (by omega) (by rfl) tk (za_cons (pz_var 4) (za_cons (pz_var 3) (za_cons (pz_var 12) (za_cons (pz_var 13) (za_cons (pz_add (pz_var 13) (pz_ix (pz_var 3) pz_int)) za_nil)))))) sc_law.nd)) zss_nil)
    (zss_cons (zs_if (zt_not (zt_val (pz_callF (ok_l_like T B 5) hr (by omega) (by rfl) tk (za_cons (pz_callF (ok_l_passage T B) hr (by omega) (by rfl) tk (za_cons (pz_var 5) (za_cons (pz_var 6) (za_cons (pz_var 12) za_nil)))) (za_cons (pz_var 15) za_nil))))) (zss_one (zs_ret pz_bl)) zss_nil)
    (zss_one (zs_if (zt_bool (zw_and (zt_ne hr.units (pz_var 15) pz_str) (zw_and1 (zt_cmp op_isnotZ oz_isnot (pz_var 15) pz_non (nomark _))))) (zss_cons (zs_set 16 (pz_callF (ok_l_sum_times T B) hr (by omega) (by rfl) tk (za_cons (pz_var 4) (za_cons (pz_var 3) (za_cons (pz_var 12) (za_cons (pz_add (pz_var 13) (pz_ix (pz_var 3) pz_int)) (za_cons (pz_var 14) za_nil)))))) sc_law.nd)
    (zss_cons (zs_expr (pz_bm mz_append (pe_bm PySem.F.plainAttrs_list PySem.F.slot_list_append PySem.F.type_list_append mt_append (pz_var 9) (za_cons (pz_tup (za_cons (pz_max2 rfl (by rfl) T.b_max (za_cons pz_int (za_cons (pz_fdiv (pz_ix (pz_var 16) pz_int) (pz_var 8)) za_nil))) (za_cons (pz_add (pz_fdiv (pz_ix (pz_var 16) pz_int) (pz_var 8)) pz_int) za_nil))) za_nil))))
    (zss_cons (zs_set 10 (pz_max2 rfl (by rfl) T.b_max (za_cons (pz_var 10) (za_cons (pz_add (pz_fdiv (pz_ix (pz_var 15) pz_int) (pz_var 8)) pz_int) za_nil))) sc_law.nd)
    (zss_one (zs_set 11 (pz_or (pz_var 11) (pz_one (pz_cmp op_lt oz_lt (pz_ix (pz_var 15) pz_int) (pz_var 8) (nomark _)))) sc_law.nd))))) zss_nil))))))))
    (zss_cons (zs_if (zt_bool (zw_or (zt_ne hr.units (pz_callF (ok_l_passage T B) hr (by omega) (by rfl) tk (za_cons (pz_var 5) (za_cons (pz_var 6) (za_cons (pz_var 7) za_nil)))) pz_str) (zw_or (zt_not (zt_val (pz_callF (ok_l_equal T B 5) hr (by omega) (by rfl) tk (za_cons (pz_callF (ok_l_told T B) hr (by omega) (by rfl) tk (za_cons (pz_var 5) (za_cons (pz_var 6) (za_cons pz_int (za_cons (pz_lstP (za_cons pz_int za_nil)) za_nil))))) (za_cons pz_str za_nil))))) (zw_or1 (zt_not (zt_val (pz_callF (ok_l_equal T B 5) hr (by omega) (by rfl) tk (za_cons (pz_callF (ok_l_told T B) hr (by omega) (by rfl) tk (za_cons (pz_var 5) (za_cons (pz_var 6) (za_cons pz_int (za_cons (pz_lstP (za_cons pz_int za_nil)) za_nil))))) (za_cons pz_str za_nil))))))))) (zss_one (zs_ret pz_bl)) zss_nil)
    (zss_cons (zs_set 15 (pz_tup (za_cons (pz_tuple (by rfl) T.b_tuple (za_cons (pz_var 9) za_nil)) (za_cons (pz_var 10) (za_cons (pz_tup (za_cons (pz_mod (pz_ix (pz_var 1) pz_int) (pz_var 7)) za_nil)) za_nil)))) sc_law.nd)
    (zss_cons (zs_if (zt_bool (zw_or (zt_cmp op_gt oz_gt (pz_len (by rfl) T.b_len (za_cons (pz_callF (ok_l_faults T B) hr (by omega) (by rfl) tk (za_cons (pz_var 4) (za_cons (pz_var 3) za_nil))) za_nil)) pz_int (nomark _)) (zw_or (zt_val (pz_var 11)) (zw_or (zt_cmp op_gt oz_gt (pz_var 10) pz_int (nomark _)) (zw_or1 (zt_cmp op_gt oz_gt (pz_maxL rfl (by rfl) T.b_max (za_cons (pz_add (pz_lstP (za_cons pz_int za_nil)) (pz_lc (own := [("way", 16)]) rfl sc_law.nd (zi_seq (pz_var 9)) (blkOk_by (by kernel_rfl)) (fun _ _ _ _ _ => (zg_name 16 sc_law.nd)) (fun _ _ _ _ _ => zts_nil) (fun _ _ _ _ _ => (pz_ix (pz_var 16) pz_int)) (by decide))) za_nil)) pz_int (nomark _))))))) (zss_one (zs_set 15 pz_str sc_law.nd)) zss_nil)
    (zss_cons (zs_if (zt_not (zt_val (pz_callF (ok_l_like T B 5) hr (by omega) (by rfl) tk (za_cons (pz_callF (ok_l_told T B) hr (by omega) (by rfl) tk (za_cons (pz_var 5) (za_cons (pz_var 6) (za_cons (pz_var 8) (za_cons (pz_lstP (za_cons (pz_mod (pz_ix (pz_var 1) pz_int) (pz_var 7)) za_nil)) za_nil))))) (za_cons (pz_var 15) za_nil))))) (zss_one (zs_ret pz_bl)) zss_nil)
    (zss_one (zs_ret (pz_or (pz_eq hr.units (pz_var 15) pz_str) (pz_one (pz_callF (ok_l_equal T B 5) hr (by omega) (by rfl) tk (za_cons (pz_callF (ok_l_told T B) hr (by omega) (by rfl) tk (za_cons (pz_var 5) (za_cons (pz_var 6) (za_cons (pz_var 8) (za_cons (pz_lstP (za_cons pz_int (za_cons pz_int za_nil))) za_nil))))) (za_cons pz_str za_nil)))))))))))))))))))))))))⟩
end
end Gk15
end
-- part G15Head
section
set_option Elab.async false
set_option linter.all false
set_option maxRecDepth 100000
set_option maxHeartbeats 0
namespace Gk15
open PySem PySem.Spec PyProof.Rows L2 Z
def d0 : He.DefD := ⟨("_law_draws", none), "_law_draws", "_law_draws", defArgs s_l_draws, defBody s_l_draws, defScope s_l_draws, [], []⟩
def d1 : He.DefD := ⟨("_law_cell", none), "_law_cell", "_law_cell", defArgs s_l_cell, defBody s_l_cell, defScope s_l_cell, [], []⟩
def d2 : He.DefD := ⟨("_law_safe_rows", none), "_law_safe_rows", "_law_safe_rows", defArgs s_l_safe_rows, defBody s_l_safe_rows, defScope s_l_safe_rows, [], []⟩
def d3 : He.DefD := ⟨("_law_safe_train", none), "_law_safe_train", "_law_safe_train", defArgs s_l_safe_train, defBody s_l_safe_train, defScope s_l_safe_train, [], []⟩
def d4 : He.DefD := ⟨("_law_drawn_segments", none), "_law_drawn_segments", "_law_drawn_segments", defArgs s_l_drawn_segments, defBody s_l_drawn_segments, defScope s_l_drawn_segments, [], []⟩
def d5 : He.DefD := ⟨("_law_drawn_layout", none), "_law_drawn_layout", "_law_drawn_layout", defArgs s_l_drawn_layout, defBody s_l_drawn_layout, defScope s_l_drawn_layout, [], []⟩
def d6 : He.DefD := ⟨("_law_drawn_train", none), "_law_drawn_train", "_law_drawn_train", defArgs s_l_drawn_train, defBody s_l_drawn_train, defScope s_l_drawn_train, [], []⟩
def d7 : He.DefD := ⟨("_law_metres", none), "_law_metres", "_law_metres", defArgs s_l_metres, defBody s_l_metres, defScope s_l_metres, [], []⟩
def d8 : He.DefD := ⟨("check_segments", none), "check_segments", "check_segments", defArgs s_check_segments, defBody s_check_segments, defScope s_check_segments, [], []⟩
def d9 : He.DefD := ⟨("Layout", some "__init__"), "__init__", "Layout.__init__", defArgs s_Layout_init, defBody s_Layout_init, defScope s_Layout_init, [], []⟩
def d10 : He.DefD := ⟨("_law_layout", none), "_law_layout", "_law_layout", defArgs s_l_layout, defBody s_l_layout, defScope s_l_layout, [], []⟩
def d11 : He.DefD := ⟨("is_interval", none), "is_interval", "is_interval", defArgs s_is_interval, defBody s_is_interval, defScope s_is_interval, [], []⟩
def d12 : He.DefD := ⟨("Train", some "__init__"), "__init__", "Train.__init__", defArgs s_Train_init, defBody s_Train_init, defScope s_Train_init, [], []⟩
def d13 : He.DefD := ⟨("_law_train", none), "_law_train", "_law_train", defArgs s_l_train, defBody s_l_train, defScope s_l_train, [], []⟩
def d14 : He.DefD := ⟨("_law_first_of", none), "_law_first_of", "_law_first_of", defArgs s_l_first_of, defBody s_l_first_of, defScope s_l_first_of, [], []⟩
def d15 : He.DefD := ⟨("_law_brake_of", none), "_law_brake_of", "_law_brake_of", defArgs s_l_brake_of, defBody s_l_brake_of, defScope s_l_brake_of, [], []⟩
def d16 : He.DefD := ⟨("_law_after", none), "_law_after", "_law_after", defArgs s_l_after, defBody s_l_after, defScope s_l_after, [], []⟩
def d17 : He.DefD := ⟨("_law_least", none), "_law_least", "_law_least", defArgs s_l_least, defBody s_l_least, defScope s_l_least, [], []⟩
def d18 : He.DefD := ⟨("_law_greatest", none), "_law_greatest", "_law_greatest", defArgs s_l_greatest, defBody s_l_greatest, defScope s_l_greatest, [], []⟩
def d19 : He.DefD := ⟨("_law_root", none), "_law_root", "_law_root", defArgs s_l_root, defBody s_l_root, defScope s_l_root, [], []⟩
def d20 : He.DefD := ⟨("_law_times", none), "_law_times", "_law_times", defArgs s_l_times, defBody s_l_times, defScope s_l_times, [], []⟩
def d21 : He.DefD := ⟨("_law_sum_times", none), "_law_sum_times", "_law_sum_times", defArgs s_l_sum_times, defBody s_l_sum_times, defScope s_l_sum_times, [], []⟩
def d22 : He.DefD := ⟨("_law_like", none), "_law_like", "_law_like", defArgs s_l_like, defBody s_l_like, defScope s_l_like, [], []⟩
def d23 : He.DefD := ⟨("Layout", some "check_block"), "check_block", "Layout.check_block", defArgs s_Layout_check_block, defBody s_Layout_check_block, defScope s_Layout_check_block, [], []⟩
def d24 : He.DefD := ⟨("Layout", some "begin"), "begin", "Layout.begin", defArgs s_Layout_begin, defBody s_Layout_begin, defScope s_Layout_begin, [], []⟩
def d25 : He.DefD := ⟨("Layout", some "brake"), "brake", "Layout.brake", defArgs s_Layout_brake, defBody s_Layout_brake, defScope s_Layout_brake, [], []⟩
def d26 : He.DefD := ⟨("Layout", some "blocks"), "blocks", "Layout.blocks", defArgs s_Layout_blocks, defBody s_Layout_blocks, defScope s_Layout_blocks, [], []⟩
def d27 : He.DefD := ⟨("Layout", some "end"), "end", "Layout.end", defArgs s_Layout_end, defBody s_Layout_end, defScope s_Layout_end, [], []⟩
def d28 : He.DefD := ⟨("Layout", some "check_metre"), "check_metre", "Layout.check_metre", defArgs s_Layout_check_metre, defBody s_Layout_check_metre, defScope s_Layout_check_metre, [], []⟩
def d29 : He.DefD := ⟨("check_energy", none), "check_energy", "check_energy", defArgs s_check_energy, defBody s_check_energy, defScope s_check_energy, [], []⟩
def d30 : He.DefD := ⟨("Layout", some "metre"), "metre", "Layout.metre", defArgs s_Layout_metre, defBody s_Layout_metre, defScope s_Layout_metre, [], []⟩
def d31 : He.DefD := ⟨("after_metre", none), "after_metre", "after_metre", defArgs s_after_metre, defBody s_after_metre, defScope s_after_metre, [], []⟩
def d32 : He.DefD := ⟨("Layout", some "total"), "total", "Layout.total", defArgs s_Layout_total, defBody s_Layout_total, defScope s_Layout_total, [], []⟩
def d33 : He.DefD := ⟨("roll", none), "roll", "roll", defArgs s_roll, defBody s_roll, defScope s_roll, [], []⟩
def d34 : He.DefD := ⟨("least_energies", none), "least_energies", "least_energies", defArgs s_least_energies, defBody s_least_energies, defScope s_least_energies, [], []⟩
def d35 : He.DefD := ⟨("greatest_energies", none), "greatest_energies", "greatest_energies", defArgs s_greatest_energies, defBody s_greatest_energies, defScope s_greatest_energies, [], []⟩
def d36 : He.DefD := ⟨("added", none), "added", "added", defArgs s_added, defBody s_added, defScope s_added, [], []⟩
def d37 : He.DefD := ⟨("check_divisor", none), "check_divisor", "check_divisor", defArgs s_check_divisor, defBody s_check_divisor, defScope s_check_divisor, [], []⟩
def d38 : He.DefD := ⟨("divided_up", none), "divided_up", "divided_up", defArgs s_divided_up, defBody s_divided_up, defScope s_divided_up, [], []⟩
def d39 : He.DefD := ⟨("root_down", none), "root_down", "root_down", defArgs s_root_down, defBody s_root_down, defScope s_root_down, [], []⟩
def d40 : He.DefD := ⟨("divided_down", none), "divided_down", "divided_down", defArgs s_divided_down, defBody s_divided_down, defScope s_divided_down, [], []⟩
def d41 : He.DefD := ⟨("root_up", none), "root_up", "root_up", defArgs s_root_up, defBody s_root_up, defScope s_root_up, [], []⟩
def d42 : He.DefD := ⟨("metre_times", none), "metre_times", "metre_times", defArgs s_metre_times, defBody s_metre_times, defScope s_metre_times, [], []⟩
def d43 : He.DefD := ⟨("times_between", none), "times_between", "times_between", defArgs s_times_between, defBody s_times_between, defScope s_times_between, [], []⟩
def d44 : He.DefD := ⟨("passage_times", none), "passage_times", "passage_times", defArgs s_passage_times, defBody s_passage_times, defScope s_passage_times, [], []⟩
def d45 : He.DefD := ⟨("_law_passage", none), "_law_passage", "_law_passage", defArgs s_l_passage, defBody s_l_passage, defScope s_l_passage, [], []⟩
def d46 : He.DefD := ⟨("_law_equal", none), "_law_equal", "_law_equal", defArgs s_l_equal, defBody s_l_equal, defScope s_l_equal, [], []⟩
def d47 : He.DefD := ⟨("envelope_before", none), "envelope_before", "envelope_before", defArgs s_envelope_before, defBody s_envelope_before, defScope s_envelope_before, [], []⟩
def d48 : He.DefD := ⟨("envelope", none), "envelope", "envelope", defArgs s_envelope, defBody s_envelope, defScope s_envelope, [], []⟩
def d49 : He.DefD := ⟨("faults", none), "faults", "faults", defArgs s_faults, defBody s_faults, defScope s_faults, [], []⟩
def d50 : He.DefD := ⟨("Ride", some "__init__"), "__init__", "Ride.__init__", defArgs s_Ride_init, defBody s_Ride_init, defScope s_Ride_init, [], []⟩
def d51 : He.DefD := ⟨("ride_of", none), "ride_of", "ride_of", defArgs s_ride_of, defBody s_ride_of, defScope s_ride_of, [], []⟩
def d52 : He.DefD := ⟨("_law_told", none), "_law_told", "_law_told", defArgs s_l_told, defBody s_l_told, defScope s_l_told, [], []⟩
def d53 : He.DefD := ⟨("_law_envelope", none), "_law_envelope", "_law_envelope", defArgs s_l_envelope, defBody s_l_envelope, defScope s_l_envelope, [], []⟩
def d54 : He.DefD := ⟨("_law_faults", none), "_law_faults", "_law_faults", defArgs s_l_faults, defBody s_l_faults, defScope s_l_faults, [], []⟩
def d55 : He.DefD := ⟨("law", none), "law", "law", defArgs s_law, defBody s_law, defScope s_law, [], []⟩
def fn0 : List He.DefD := [d0, d1, d2, d3, d4, d5, d6, d7, d8, d9, d10, d11]
def fn1 : List He.DefD := [d12, d13, d14, d15, d16, d17, d18, d19, d20, d21, d22, d23]
def fn2 : List He.DefD := [d24, d25, d26, d27, d28, d29, d30, d31, d32, d33, d34, d35]
def fn3 : List He.DefD := [d36, d37, d38, d39, d40, d41, d42, d43, d44, d45, d46, d47]
def fn4 : List He.DefD := [d48, d49, d50, d51, d52, d53, d54, d55]
def fn : List He.DefD := fn0 ++ fn1 ++ fn2 ++ fn3 ++ fn4
def fa0 : List He.Fa := [.free "range", .free "int", .glo "_law_draws", .free "len", .free "abs", .glo "_law_cell", .glo "_law_safe_rows", .glo "_law_safe_train", .free "min", .free "max", .glo "_law_drawn_segments", .free "sum"]
def fa1 : List He.Fa := [.glo "_law_drawn_layout", .glo "_law_drawn_train", .glo "_law_metres", .glo "KINDS", .int "MOST_LENGTH_layout" 500, .int "MOST_SLOPE" 100, .glo "InvalidLayout", .exc "InvalidLayout", .int "MOST_TOTAL" 4000, .int "MOST_BLOCKS_layout" 12, .glo "check_segments", .free "tuple"]
def fa2 : List He.Fa := [.cls "Layout", .noat "Layout" "segments", .noat "Layout" "metres", .noat "Layout" "begins", .noat "Layout" "brakes", .noat "Layout" "heights", .glo "Layout", .mkr "Layout", .glo "_law_layout", .int "MOST_LENGTH_train" 100, .glo "InvalidTrain", .exc "InvalidTrain"]
def fa3 : List He.Fa := [.glo "is_interval", .int "MOST_FRICTION" 100000, .int "MOST_BRAKE" 1000000, .int "MOST_ENERGY" 10000000, .cls "Train", .noat "Train" "length", .noat "Train" "friction", .noat "Train" "brake", .noat "Train" "lift", .noat "Train" "drive", .glo "Train", .mkr "Train"]
def fa4 : List He.Fa := [.glo "_law_train", .glo "_law_first_of", .glo "_law_brake_of", .glo "_law_after", .glo "_law_least", .glo "_law_greatest", .glo "_law_root", .glo "_law_times", .glo "_law_sum_times", .free "isinstance", .free "bool", .free "str"]
def fa5 : List He.Fa := [.free "list", .free "all", .glo "_law_like", .glo "BadNumber", .exc "BadNumber", .meth "Layout" "check_block", .meth "Layout" "begin", .meth "Layout" "brake", .glo "NotFitting", .exc "NotFitting", .meth "Layout" "blocks", .meth "Layout" "end"]
def fa6 : List He.Fa := [.meth "Layout" "check_metre", .glo "check_energy", .free "zip", .meth "Layout" "metre", .int "FALL" 1962, .glo "after_metre", .meth "Layout" "total", .glo "roll", .glo "least_energies", .glo "greatest_energies", .glo "added", .glo "check_divisor"]
def fa7 : List He.Fa := [.glo "divided_up", .glo "root_down", .int "SECOND" 100000000, .glo "divided_down", .glo "root_up", .glo "metre_times", .glo "times_between", .glo "passage_times", .exm "InvalidTrain" "NotFitting" false, .exm "InvalidTrain" "BadNumber" false, .exm "InvalidLayout" "NotFitting" false, .exm "InvalidLayout" "BadNumber" false]
def fa8 : List He.Fa := [.exm "CoasterError" "NotFitting" false, .glo "CoasterError", .exm "CoasterError" "BadNumber" false, .exm "BadNumber" "NotFitting" false, .exm "BadNumber" "BadNumber" true, .exm "NotFitting" "NotFitting" true, .exm "NotFitting" "BadNumber" false, .exm "InvalidRide" "NotFitting" false, .glo "InvalidRide", .exm "InvalidRide" "BadNumber" false, .glo "_law_passage", .free "dict"]
def fa9 : List He.Fa := [.glo "_law_equal", .int "LEAST_SCAN" 1000, .int "GREATEST_SCAN" 10000000, .glo "envelope_before", .glo "envelope", .glo "faults", .int "MOST_OVER" 20, .int "MOST_AGE" 99, .int "MOST_BLOCKS_ride" 12, .exc "InvalidRide", .free "set", .cls "Ride"]
def fa10 : List He.Fa := [.noat "Ride" "ways", .noat "Ride" "over", .noat "Ride" "trains", .glo "Ride", .mkr "Ride", .glo "ride_of", .exm "InvalidTrain" "InvalidRide" false, .exm "InvalidLayout" "InvalidRide" false, .exm "CoasterError" "InvalidRide" false, .exm "BadNumber" "InvalidRide" false, .exm "NotFitting" "InvalidRide" false, .exm "InvalidRide" "InvalidRide" true]
def fa11 : List He.Fa := [.glo "_law_told", .glo "_law_envelope", .glo "_law_faults", .glo "law"]
def fa : List He.Fa := fa0 ++ fa1 ++ fa2 ++ fa3 ++ fa4 ++ fa5 ++ fa6 ++ fa7 ++ fa8 ++ fa9 ++ fa10 ++ fa11
def names0 : List Str := ["_wall", "__name__", "CoasterError", "BadNumber", "InvalidLayout", "InvalidTrain", "InvalidRide", "NotFitting", "check_divisor", "divided_down", "divided_up", "root_down"]
def names1 : List Str := ["root_up", "is_interval", "added", "FALL", "SECOND", "check_energy", "after_metre", "roll", "greatest_energies", "least_energies", "metre_times", "times_between"]
def names2 : List Str := ["MOST_BLOCKS_ride", "MOST_AGE", "MOST_OVER", "HELD", "Ride", "LEAST_SCAN", "GREATEST_SCAN", "envelope_before", "envelope", "faults", "passage_times", "ride_of"]
def names3 : List Str := ["KINDS", "MOST_LENGTH_layout", "MOST_SLOPE", "MOST_TOTAL", "MOST_BLOCKS_layout", "check_segments", "Layout", "MOST_LENGTH_train", "MOST_FRICTION", "MOST_BRAKE", "MOST_ENERGY", "Train"]
def names4 : List Str := ["_law_equal", "_law_cell", "_law_draws", "_law_like", "_law_drawn_segments", "_law_drawn_layout", "_law_drawn_train", "_law_metres", "_law_after", "_law_layout", "_law_train", "_law_safe_rows"]
def names5 : List Str := ["_law_safe_train", "_law_least", "_law_greatest", "_law_envelope", "_law_root", "_law_times", "_law_first_of", "_law_brake_of", "_law_sum_times", "_law_faults", "_law_told", "_law_passage"]
def names : List Str := names0 ++ names1 ++ names2 ++ names3 ++ names4 ++ names5
def mo (K : PySem.W.Frag) : Bool := (He.tupB K "KINDS" [.str "coast", .str "lift", .str "brake"])
abbrev R : PySem.W.OpenRow := PySem.W.OpenLaw.row PySem.Challenge.rw_coastersafe_k15_passages_and_rides_of_la
abbrev hk : PySem.W.Hook := He.hookX 4 fa fn [] tf mo
def ob (s : PySem.W.SharedT) : He.AlX := He.obsX 4 fa fn [] tf mo (HandSHeadRun.getT s)
theorem ob_eq (s : PySem.W.SharedT) : ob s = hk.obs s.abs := He.obsX_eq (HandSHeadRun.getT_eq s)
theorem run (w : World) : HandSHeadRun.RunEq R (PySem.W.view R.prog [79]) hk ob 8000 names w := by
  intro os
  kernel_rfl
theorem txt {K : PySem.W.Frag} {h : Heap} {mg : Str → Option Value} (X : K.In h) (G : h.Ns mainGlobals mg) {w : World} (cx : He.SaysX fa fn [] tf mo w h K) : Txt K mg := by
  have c := cx.t.d
  have hmo : (He.tupB K "KINDS" [.str "coast", .str "lift", .str "brake"]) = true := by
    have h := cx.more
    simp only [mo, Bool.and_eq_true] at h
    simpa only [and_assoc] using h
  exact {
    b_range := He.free_ok X G (c.fact 0 (f := .free "range") rfl),
    b_int := He.free_ok X G (c.fact 1 (f := .free "int") rfl),
    f_l_draws := c.def_ 0 (d := d0) rfl,
    g_l_draws := He.glo_ok X G (c.fact 2 (f := .glo "_law_draws") rfl),
    b_len := He.free_ok X G (c.fact 3 (f := .free "len") rfl),
    b_abs := He.free_ok X G (c.fact 4 (f := .free "abs") rfl),
    f_l_cell := c.def_ 1 (d := d1) rfl,
    g_l_cell := He.glo_ok X G (c.fact 5 (f := .glo "_law_cell") rfl),
    f_l_safe_rows := c.def_ 2 (d := d2) rfl,
    g_l_safe_rows := He.glo_ok X G (c.fact 6 (f := .glo "_law_safe_rows") rfl),
    f_l_safe_train := c.def_ 3 (d := d3) rfl,
    g_l_safe_train := He.glo_ok X G (c.fact 7 (f := .glo "_law_safe_train") rfl),
    b_min := He.free_ok X G (c.fact 8 (f := .free "min") rfl),
    b_max := He.free_ok X G (c.fact 9 (f := .free "max") rfl),
    f_l_drawn_segments := c.def_ 4 (d := d4) rfl,
    g_l_drawn_segments := He.glo_ok X G (c.fact 10 (f := .glo "_law_drawn_segments") rfl),
    b_sum := He.free_ok X G (c.fact 11 (f := .free "sum") rfl),
    f_l_drawn_layout := c.def_ 5 (d := d5) rfl,
    g_l_drawn_layout := He.glo_ok X G (c.fact 12 (f := .glo "_law_drawn_layout") rfl),
    f_l_drawn_train := c.def_ 6 (d := d6) rfl,
    g_l_drawn_train := He.glo_ok X G (c.fact 13 (f := .glo "_law_drawn_train") rfl),
    f_l_metres := c.def_ 7 (d := d7) rfl,
    g_l_metres := He.glo_ok X G (c.fact 14 (f := .glo "_law_metres") rfl),
    g_KINDS := He.glo_ok X G (c.fact 15 (f := .glo "KINDS") rfl),
    c_KINDS := Z.glo_tup (hmo) (He.glo_ok X G (c.fact 15 (f := .glo "KINDS") rfl)) rfl _,
    c_MOST_LENGTH_layout := glo_int (He.int_ok X G (c.fact 16 (f := .int "MOST_LENGTH_layout" 500) rfl)),
    c_MOST_SLOPE := glo_int (He.int_ok X G (c.fact 17 (f := .int "MOST_SLOPE" 100) rfl)),
    g_InvalidLayout := He.glo_ok X G (c.fact 18 (f := .glo "InvalidLayout") rfl),
    x_InvalidLayout := Z.exc_mk (He.exc_ok (c.fact 19 (f := .exc "InvalidLayout") rfl)) (He.glo_ok X G (c.fact 18 (f := .glo "InvalidLayout") rfl)),
    c_MOST_TOTAL := glo_int (He.int_ok X G (c.fact 20 (f := .int "MOST_TOTAL" 4000) rfl)),
    c_MOST_BLOCKS_layout := glo_int (He.int_ok X G (c.fact 21 (f := .int "MOST_BLOCKS_layout" 12) rfl)),
    f_check_segments := c.def_ 8 (d := d8) rfl,
    g_check_segments := He.glo_ok X G (c.fact 22 (f := .glo "check_segments") rfl),
    b_tuple := He.free_ok X G (c.fact 23 (f := .free "tuple") rfl),
    cl_Layout := He.cls_ok (c.fact 24 (f := .cls "Layout") rfl),
    na_Layout_segments := He.noat_ok (c.fact 25 (f := .noat "Layout" "segments") rfl),
    na_Layout_metres := He.noat_ok (c.fact 26 (f := .noat "Layout" "metres") rfl),
    na_Layout_begins := He.noat_ok (c.fact 27 (f := .noat "Layout" "begins") rfl),
    na_Layout_brakes := He.noat_ok (c.fact 28 (f := .noat "Layout" "brakes") rfl),
    na_Layout_heights := He.noat_ok (c.fact 29 (f := .noat "Layout" "heights") rfl),
    f_Layout_init := c.def_ 9 (d := d9) rfl,
    g_Layout := He.glo_ok X G (c.fact 30 (f := .glo "Layout") rfl),
    mk_Layout := He.mkr_ok (c.fact 31 (f := .mkr "Layout") rfl),
    f_l_layout := c.def_ 10 (d := d10) rfl,
    g_l_layout := He.glo_ok X G (c.fact 32 (f := .glo "_law_layout") rfl),
    c_MOST_LENGTH_train := glo_int (He.int_ok X G (c.fact 33 (f := .int "MOST_LENGTH_train" 100) rfl)),
    g_InvalidTrain := He.glo_ok X G (c.fact 34 (f := .glo "InvalidTrain") rfl),
    x_InvalidTrain := Z.exc_mk (He.exc_ok (c.fact 35 (f := .exc "InvalidTrain") rfl)) (He.glo_ok X G (c.fact 34 (f := .glo "InvalidTrain") rfl)),
    f_is_interval := c.def_ 11 (d := d11) rfl,
    g_is_interval := He.glo_ok X G (c.fact 36 (f := .glo "is_interval") rfl),
    c_MOST_FRICTION := glo_int (He.int_ok X G (c.fact 37 (f := .int "MOST_FRICTION" 100000) rfl)),
    c_MOST_BRAKE := glo_int (He.int_ok X G (c.fact 38 (f := .int "MOST_BRAKE" 1000000) rfl)),
    c_MOST_ENERGY := glo_int (He.int_ok X G (c.fact 39 (f := .int "MOST_ENERGY" 10000000) rfl)),
    cl_Train := He.cls_ok (c.fact 40 (f := .cls "Train") rfl),
    na_Train_length := He.noat_ok (c.fact 41 (f := .noat "Train" "length") rfl),
    na_Train_friction := He.noat_ok (c.fact 42 (f := .noat "Train" "friction") rfl),
    na_Train_brake := He.noat_ok (c.fact 43 (f := .noat "Train" "brake") rfl),
    na_Train_lift := He.noat_ok (c.fact 44 (f := .noat "Train" "lift") rfl),
    na_Train_drive := He.noat_ok (c.fact 45 (f := .noat "Train" "drive") rfl),
    f_Train_init := c.def_ 12 (d := d12) rfl,
    g_Train := He.glo_ok X G (c.fact 46 (f := .glo "Train") rfl),
    mk_Train := He.mkr_ok (c.fact 47 (f := .mkr "Train") rfl),
    f_l_train := c.def_ 13 (d := d13) rfl,
    g_l_train := He.glo_ok X G (c.fact 48 (f := .glo "_law_train") rfl),
    f_l_first_of := c.def_ 14 (d := d14) rfl,
    g_l_first_of := He.glo_ok X G (c.fact 49 (f := .glo "_law_first_of") rfl),
    f_l_brake_of := c.def_ 15 (d := d15) rfl,
    g_l_brake_of := He.glo_ok X G (c.fact 50 (f := .glo "_law_brake_of") rfl),
    f_l_after := c.def_ 16 (d := d16) rfl,
    g_l_after := He.glo_ok X G (c.fact 51 (f := .glo "_law_after") rfl),
    f_l_least := c.def_ 17 (d := d17) rfl,
    g_l_least := He.glo_ok X G (c.fact 52 (f := .glo "_law_least") rfl),
    f_l_greatest := c.def_ 18 (d := d18) rfl,
    g_l_greatest := He.glo_ok X G (c.fact 53 (f := .glo "_law_greatest") rfl),
    f_l_root := c.def_ 19 (d := d19) rfl,
    g_l_root := He.glo_ok X G (c.fact 54 (f := .glo "_law_root") rfl),
    f_l_times := c.def_ 20 (d := d20) rfl,
    g_l_times := He.glo_ok X G (c.fact 55 (f := .glo "_law_times") rfl),
    f_l_sum_times := c.def_ 21 (d := d21) rfl,
    g_l_sum_times := He.glo_ok X G (c.fact 56 (f := .glo "_law_sum_times") rfl),
    b_isinstance := He.free_ok X G (c.fact 57 (f := .free "isinstance") rfl),
    b_bool := He.free_ok X G (c.fact 58 (f := .free "bool") rfl),
    b_str := He.free_ok X G (c.fact 59 (f := .free "str") rfl),
    b_list := He.free_ok X G (c.fact 60 (f := .free "list") rfl),
    b_all := He.free_ok X G (c.fact 61 (f := .free "all") rfl),
    f_l_like := c.def_ 22 (d := d22) rfl,
    g_l_like := He.glo_ok X G (c.fact 62 (f := .glo "_law_like") rfl),
    g_BadNumber := He.glo_ok X G (c.fact 63 (f := .glo "BadNumber") rfl),
    x_BadNumber := Z.exc_mk (He.exc_ok (c.fact 64 (f := .exc "BadNumber") rfl)) (He.glo_ok X G (c.fact 63 (f := .glo "BadNumber") rfl)),
    f_Layout_check_block := c.def_ 23 (d := d23) rfl,
    me_Layout_check_block := He.meth_ok (c.fact 65 (f := .meth "Layout" "check_block") rfl),
    f_Layout_begin := c.def_ 24 (d := d24) rfl,
    me_Layout_begin := He.meth_ok (c.fact 66 (f := .meth "Layout" "begin") rfl),
    f_Layout_brake := c.def_ 25 (d := d25) rfl,
    me_Layout_brake := He.meth_ok (c.fact 67 (f := .meth "Layout" "brake") rfl),
    g_NotFitting := He.glo_ok X G (c.fact 68 (f := .glo "NotFitting") rfl),
    x_NotFitting := Z.exc_mk (He.exc_ok (c.fact 69 (f := .exc "NotFitting") rfl)) (He.glo_ok X G (c.fact 68 (f := .glo "NotFitting") rfl)),
    f_Layout_blocks := c.def_ 26 (d := d26) rfl,
    me_Layout_blocks := He.meth_ok (c.fact 70 (f := .meth "Layout" "blocks") rfl),
    f_Layout_end := c.def_ 27 (d := d27) rfl,
    me_Layout_end := He.meth_ok (c.fact 71 (f := .meth "Layout" "end") rfl),
    f_Layout_check_metre := c.def_ 28 (d := d28) rfl,
    me_Layout_check_metre := He.meth_ok (c.fact 72 (f := .meth "Layout" "check_metre") rfl),
    f_check_energy := c.def_ 29 (d := d29) rfl,
    g_check_energy := He.glo_ok X G (c.fact 73 (f := .glo "check_energy") rfl),
    b_zip := He.free_ok X G (c.fact 74 (f := .free "zip") rfl),
    f_Layout_metre := c.def_ 30 (d := d30) rfl,
    me_Layout_metre := He.meth_ok (c.fact 75 (f := .meth "Layout" "metre") rfl),
    c_FALL := glo_int (He.int_ok X G (c.fact 76 (f := .int "FALL" 1962) rfl)),
    f_after_metre := c.def_ 31 (d := d31) rfl,
    g_after_metre := He.glo_ok X G (c.fact 77 (f := .glo "after_metre") rfl),
    f_Layout_total := c.def_ 32 (d := d32) rfl,
    me_Layout_total := He.meth_ok (c.fact 78 (f := .meth "Layout" "total") rfl),
    f_roll := c.def_ 33 (d := d33) rfl,
    g_roll := He.glo_ok X G (c.fact 79 (f := .glo "roll") rfl),
    f_least_energies := c.def_ 34 (d := d34) rfl,
    g_least_energies := He.glo_ok X G (c.fact 80 (f := .glo "least_energies") rfl),
    f_greatest_energies := c.def_ 35 (d := d35) rfl,
    g_greatest_energies := He.glo_ok X G (c.fact 81 (f := .glo "greatest_energies") rfl),
    f_added := c.def_ 36 (d := d36) rfl,
    g_added := He.glo_ok X G (c.fact 82 (f := .glo "added") rfl),
    f_check_divisor := c.def_ 37 (d := d37) rfl,
    g_check_divisor := He.glo_ok X G (c.fact 83 (f := .glo "check_divisor") rfl),
    f_divided_up := c.def_ 38 (d := d38) rfl,
    g_divided_up := He.glo_ok X G (c.fact 84 (f := .glo "divided_up") rfl),
    f_root_down := c.def_ 39 (d := d39) rfl,
    g_root_down := He.glo_ok X G (c.fact 85 (f := .glo "root_down") rfl),
    c_SECOND := glo_int (He.int_ok X G (c.fact 86 (f := .int "SECOND" 100000000) rfl)),
    f_divided_down := c.def_ 40 (d := d40) rfl,
    g_divided_down := He.glo_ok X G (c.fact 87 (f := .glo "divided_down") rfl),
    f_root_up := c.def_ 41 (d := d41) rfl,
    g_root_up := He.glo_ok X G (c.fact 88 (f := .glo "root_up") rfl),
    f_metre_times := c.def_ 42 (d := d42) rfl,
    g_metre_times := He.glo_ok X G (c.fact 89 (f := .glo "metre_times") rfl),
    f_times_between := c.def_ 43 (d := d43) rfl,
    g_times_between := He.glo_ok X G (c.fact 90 (f := .glo "times_between") rfl),
    f_passage_times := c.def_ 44 (d := d44) rfl,
    g_passage_times := He.glo_ok X G (c.fact 91 (f := .glo "passage_times") rfl),
    e_InvalidTrain_NotFitting := He.exm_ok (c.fact 92 (f := .exm "InvalidTrain" "NotFitting" false) rfl),
    e_InvalidTrain_BadNumber := He.exm_ok (c.fact 93 (f := .exm "InvalidTrain" "BadNumber" false) rfl),
    e_InvalidLayout_NotFitting := He.exm_ok (c.fact 94 (f := .exm "InvalidLayout" "NotFitting" false) rfl),
    e_InvalidLayout_BadNumber := He.exm_ok (c.fact 95 (f := .exm "InvalidLayout" "BadNumber" false) rfl),
    e_CoasterError_NotFitting := He.exm_ok (c.fact 96 (f := .exm "CoasterError" "NotFitting" false) rfl),
    g_CoasterError := He.glo_ok X G (c.fact 97 (f := .glo "CoasterError") rfl),
    e_CoasterError_BadNumber := He.exm_ok (c.fact 98 (f := .exm "CoasterError" "BadNumber" false) rfl),
    e_BadNumber_NotFitting := He.exm_ok (c.fact 99 (f := .exm "BadNumber" "NotFitting" false) rfl),
    e_BadNumber_BadNumber := He.exm_ok (c.fact 100 (f := .exm "BadNumber" "BadNumber" true) rfl),
    e_NotFitting_NotFitting := He.exm_ok (c.fact 101 (f := .exm "NotFitting" "NotFitting" true) rfl),
    e_NotFitting_BadNumber := He.exm_ok (c.fact 102 (f := .exm "NotFitting" "BadNumber" false) rfl),
    e_InvalidRide_NotFitting := He.exm_ok (c.fact 103 (f := .exm "InvalidRide" "NotFitting" false) rfl),
    g_InvalidRide := He.glo_ok X G (c.fact 104 (f := .glo "InvalidRide") rfl),
    e_InvalidRide_BadNumber := He.exm_ok (c.fact 105 (f := .exm "InvalidRide" "BadNumber" false) rfl),
    f_l_passage := c.def_ 45 (d := d45) rfl,
    g_l_passage := He.glo_ok X G (c.fact 106 (f := .glo "_law_passage") rfl),
    b_dict := He.free_ok X G (c.fact 107 (f := .free "dict") rfl),
    f_l_equal := c.def_ 46 (d := d46) rfl,
    g_l_equal := He.glo_ok X G (c.fact 108 (f := .glo "_law_equal") rfl),
    c_LEAST_SCAN := glo_int (He.int_ok X G (c.fact 109 (f := .int "LEAST_SCAN" 1000) rfl)),
    c_GREATEST_SCAN := glo_int (He.int_ok X G (c.fact 110 (f := .int "GREATEST_SCAN" 10000000) rfl)),
    f_envelope_before := c.def_ 47 (d := d47) rfl,
    g_envelope_before := He.glo_ok X G (c.fact 111 (f := .glo "envelope_before") rfl),
    f_envelope := c.def_ 48 (d := d48) rfl,
    g_envelope := He.glo_ok X G (c.fact 112 (f := .glo "envelope") rfl),
    f_faults := c.def_ 49 (d := d49) rfl,
    g_faults := He.glo_ok X G (c.fact 113 (f := .glo "faults") rfl),
    c_MOST_OVER := glo_int (He.int_ok X G (c.fact 114 (f := .int "MOST_OVER" 20) rfl)),
    c_MOST_AGE := glo_int (He.int_ok X G (c.fact 115 (f := .int "MOST_AGE" 99) rfl)),
    c_MOST_BLOCKS_ride := glo_int (He.int_ok X G (c.fact 116 (f := .int "MOST_BLOCKS_ride" 12) rfl)),
    x_InvalidRide := Z.exc_mk (He.exc_ok (c.fact 117 (f := .exc "InvalidRide") rfl)) (He.glo_ok X G (c.fact 104 (f := .glo "InvalidRide") rfl)),
    b_set := He.free_ok X G (c.fact 118 (f := .free "set") rfl),
    cl_Ride := He.cls_ok (c.fact 119 (f := .cls "Ride") rfl),
    na_Ride_ways := He.noat_ok (c.fact 120 (f := .noat "Ride" "ways") rfl),
    na_Ride_over := He.noat_ok (c.fact 121 (f := .noat "Ride" "over") rfl),
    na_Ride_trains := He.noat_ok (c.fact 122 (f := .noat "Ride" "trains") rfl),
    f_Ride_init := c.def_ 50 (d := d50) rfl,
    g_Ride := He.glo_ok X G (c.fact 123 (f := .glo "Ride") rfl),
    mk_Ride := He.mkr_ok (c.fact 124 (f := .mkr "Ride") rfl),
    f_ride_of := c.def_ 51 (d := d51) rfl,
    g_ride_of := He.glo_ok X G (c.fact 125 (f := .glo "ride_of") rfl),
    e_InvalidTrain_InvalidRide := He.exm_ok (c.fact 126 (f := .exm "InvalidTrain" "InvalidRide" false) rfl),
    e_InvalidLayout_InvalidRide := He.exm_ok (c.fact 127 (f := .exm "InvalidLayout" "InvalidRide" false) rfl),
    e_CoasterError_InvalidRide := He.exm_ok (c.fact 128 (f := .exm "CoasterError" "InvalidRide" false) rfl),
    e_BadNumber_InvalidRide := He.exm_ok (c.fact 129 (f := .exm "BadNumber" "InvalidRide" false) rfl),
    e_NotFitting_InvalidRide := He.exm_ok (c.fact 130 (f := .exm "NotFitting" "InvalidRide" false) rfl),
    e_InvalidRide_InvalidRide := He.exm_ok (c.fact 131 (f := .exm "InvalidRide" "InvalidRide" true) rfl),
    f_l_told := c.def_ 52 (d := d52) rfl,
    g_l_told := He.glo_ok X G (c.fact 132 (f := .glo "_law_told") rfl),
    f_l_envelope := c.def_ 53 (d := d53) rfl,
    g_l_envelope := He.glo_ok X G (c.fact 133 (f := .glo "_law_envelope") rfl),
    f_l_faults := c.def_ 54 (d := d54) rfl,
    g_l_faults := He.glo_ok X G (c.fact 134 (f := .glo "_law_faults") rfl),
    f_law := c.def_ 55 (d := d55) rfl,
    g_law := He.glo_ok X G (c.fact 135 (f := .glo "law") rfl) }
end Gk15
open PySem PySem.W PySem.Calls PyProof.Rows
theorem Gk15.ends (hlaw : ∀ ns : List Int, ns.length ≤ 63 → Gk15.m_law [.scr ns] = .ok (.bl true)) : PySem.Challenge.rw_coastersafe_k15_passages_and_rides_of_la.Holds := by
  w_on; o_law
  refine HandSHeadRun.head_any (r := OpenLaw.row PySem.Challenge.rw_coastersafe_k15_passages_and_rides_of_la) (q := view (OpenLaw.row PySem.Challenge.rw_coastersafe_k15_passages_and_rides_of_la).prog [79]) (H := Gk15.hk) (ob := Gk15.ob) (M := 8000) (loose := Gk15.names) (d := HandSHeadRun.topDef (OpenLaw.row PySem.Challenge.rw_coastersafe_k15_passages_and_rides_of_la).prog 79) (kwd := []) Gk15.ob_eq
    (by kernel_rfl) (fun s => by kernel_rfl) Gk15.run (by kernel_rfl) (by kernel_rfl) (by kernel_rfl) (by rfl) (by first | assumption | decide +kernel) (by decide +kernel) ⟨rfl, rfl, rfl, rfl, rfl, by decide +kernel⟩ ?hw ?hc
  case hw => w_witness2
  case hc =>
    refine LamX.walk_ofTsE (l := PySem.Challenge.rw_coastersafe_k15_passages_and_rides_of_la) (n := 63) (k := 10) (x := "script") (CX := fun w => L2.CX (PySem.Challenge.rw_coastersafe_k15_passages_and_rides_of_la).prog w) rfl (by decide) (by kernel_rfl) ⟨rfl, by decide, by decide⟩ ?F (fun w H s e s' h => Z.cx_no w H s e s' h)
    intro w mg fa h Y G hmg0
    obtain ⟨K, KX, c⟩ := Y
    have hmg : mg ("law" : PySem.Str) = some (.ref fa) := by
      have e : (HandSHeadRun.topDef (OpenLaw.row PySem.Challenge.rw_coastersafe_k15_passages_and_rides_of_la).prog 79).name = ("law" : PySem.Str) := by kernel_rfl
      rw [← e]
      exact hmg0
    have T := Gk15.txt KX G c
    have e := hmg.symm.trans T.g_law
    cases e
    obtain ⟨fd, hb, hF⟩ := Gk15.ok_law (P0 := (PySem.Challenge.rw_coastersafe_k15_passages_and_rides_of_la).prog) (w := w) T
    have mem : ∀ p ∈ Gk15.tf.map (He.cT K), ∃ q ∈ Gk15.tf, He.cT K q = p := fun p hp => List.mem_map.mp hp
    refine ⟨K, KX, fd, Gk15.tf.map (He.cT K), _, ?_, ?_, ?_, hb, fun H a ns hl _ ht hS => Z.sp_law hlaw H a ns hl (fun P hP => ?_) hS, fun base _ _ hB => hF base ⟨fun p hp => hB _ (List.mem_map.mpr ⟨p, hp, rfl⟩)⟩⟩
    · intro p hp
      obtain ⟨q, hq, rfl⟩ := mem p hp
      exact c.empty q hq
    · intro p hp
      obtain ⟨q, hq, rfl⟩ := mem p hp
      exact c.out q hq
    · intro p hp
      obtain ⟨q, hq, rfl⟩ := mem p hp
      exact PySem.W.codeHd_of_K KX (c.hd q hq)
    · obtain ⟨q, hq, rfl⟩ := List.mem_map.mp hP
      exact ht _ (List.mem_map.mpr ⟨q, hq, rfl⟩)
end
-- part M15a
section
set_option Elab.async false
set_option linter.all false
set_option maxRecDepth 100000
set_option autoImplicit false
namespace Gk15
open PySem PySem.Spec PyProof.Rows L2 Z
theorem cell_ok (ns : List Int) (k : Nat) : ∃ c : Int, 0 ≤ c ∧ m_l_cell [.scr ns, .int k] = .ok (.int c) := by
  unfold m_l_cell
  by_cases h : (k : Int) < ns.length
  · have e := atI_gi (xs := ns) (i := k) (by omega) h
    refine ⟨if gi ns k < 0 then -gi ns k else gi ns k, by split <;> omega, ?_⟩
    simp [runP_ap, envOf_ap, h, e]
  · exact ⟨0, by omega, by simp [runP_ap, envOf_ap, h]⟩
def JDraws (c : Int) (n : Nat) (k : Nat) (ρ : Z.Env) (S : Store) : Prop := ∃ (acc : List Int) (left : Int) (kk mx : Option W),
  ρ = [some (.val (.int c)), some (.val (.int n)), some (.loc 0), some (.val (.int left)), kk, mx] ∧ S = [.lst (acc.map fun d => .val (.int d))] ∧ acc.length = k ∧ ∀ d ∈ acc, 0 ≤ d ∧ d < 4096
theorem draws_ok (c : Int) (n : Nat) (hc : 0 ≤ c) (hn : n ≤ 1000) : ∃ ds : List Int, ds.length = n ∧ (∀ d ∈ ds, 0 ≤ d ∧ d < 4096) ∧ m_l_draws [.int c, .int n] = .ok (.lst (ds.map .int)) := by
  have L := forGo_rngJ (JDraws c n) (t := .nm 4) (body := m_l_draws_b1) (lo := 0) (n := n) (ρ := [some (.val (.int c)), some (.val (.int n)), some (.loc 0), some (.val (.int c)), none, none]) (S := [.lst []]) ?_ ⟨[], c, none, none, rfl, rfl, rfl, by simp⟩
  · obtain ⟨_, _, e, acc, left, kk, mx, rfl, rfl, hl, hd⟩ := L
    refine ⟨acc, hl, hd, ?_⟩
    unfold m_l_draws
    have r : rngOk 0 n = true := rngOk_of (by omega) (by omega) (by omega) (by omega)
    simp [runP_ap, envOf_ap, r, e]
  · rintro k ρ S hk ⟨acc, left, kk, mx, rfl, rfl, hl, hd⟩
    have hl2 : acc.length < 100000 := by omega
    simp (disch := omega) [m_l_draws_b1, mulOk_c, hl2]
    split
    · split
      · refine ⟨_, _, rfl, acc ++ [_], _, _, _, rfl, by rw [List.map_append] <;> rfl, by simp [hl], fun d h => ?_⟩
        simp only [List.mem_append, List.mem_cons, List.not_mem_nil, or_false] at h
        rcases h with h | rfl
        · exact hd d h
        · omega
      · refine ⟨_, _, rfl, acc ++ [_], _, _, _, rfl, by rw [List.map_append] <;> rfl, by simp [hl], fun d h => ?_⟩
        simp only [List.mem_append, List.mem_cons, List.not_mem_nil, or_false] at h
        rcases h with h | rfl
        · exact hd d h
        · omega
    · refine ⟨_, _, rfl, acc ++ [_], _, _, _, rfl, by rw [List.map_append] <;> rfl, by simp [hl], fun d h => ?_⟩
      simp only [List.mem_append, List.mem_cons, List.not_mem_nil, or_false] at h
      rcases h with h | rfl
      · exact hd d h
      · omega

structure Seg where
  kind : Str
  len : Int
  slope : Int
def segP (s : Seg) : P := .tup [.str s.kind, .int s.len, .int s.slope]
structure SegOk (s : Seg) : Prop where
  k : s.kind = "coast" ∨ s.kind = "lift" ∨ s.kind = "brake"
  l1 : 1 ≤ s.len
  l2 : s.len ≤ 500
  s1 : -100 ≤ s.slope
  s2 : s.slope ≤ 100
def nBr (rows : List Seg) : Nat := (rows.filter fun s => decide (s.kind = ("brake" : Str))).length
def tot (rows : List Seg) : Int := (rows.map Seg.len).sum
structure Rows (rows : List Seg) (nb : Nat) (t : Int) : Prop where
  ok : ∀ s ∈ rows, SegOk s
  nb : nBr rows = nb
  t : tot rows ≤ t
theorem tot_len : ∀ {rows : List Seg}, (∀ s ∈ rows, SegOk s) → (rows.length : Int) ≤ tot rows
  | [], _ => by simp [tot]
  | s :: r, h => by
    have a := tot_len (rows := r) fun s hs => h s (List.mem_cons_of_mem _ hs)
    have b := (h s List.mem_cons_self).l1
    simp only [tot, List.map_cons, List.sum_cons, List.length_cons] at a ⊢
    push_cast
    omega
theorem Rows.nil : Rows [] 0 0 := ⟨by simp, rfl, by simp [tot]⟩
@[simp] theorem nBr_app (a b : List Seg) : nBr (a ++ b) = nBr a + nBr b := by simp [nBr, List.filter_append]
@[simp] theorem tot_app (a b : List Seg) : tot (a ++ b) = tot a + tot b := by simp [tot]
@[simp] theorem tot_one (s : Seg) : tot [s] = s.len := by simp [tot]
theorem nBr_one (s : Seg) (h : s.kind = ("brake" : Str)) : nBr [s] = 1 := by simp [nBr, h]
theorem nBr_non (s : Seg) (h : s.kind ≠ ("brake" : Str)) : nBr [s] = 0 := by simp [nBr, h]
theorem Rows.snoc {rows : List Seg} {nb : Nat} {t t' : Int} {s : Seg} (h : Rows rows nb t) (hs : SegOk s) (ht : t + s.len ≤ t') (hk : s.kind ≠ "brake") : Rows (rows ++ [s]) nb t' :=
  ⟨fun x hx => by
    rcases List.mem_append.mp hx with q | q
    · exact h.ok x q
    · rw [List.mem_singleton.mp q]; exact hs, by rw [nBr_app, nBr_non s hk, h.nb, Nat.add_zero], by
    have := h.t
    rw [tot_app, tot_one]; omega⟩
theorem Rows.brake {rows : List Seg} {nb : Nat} {t t' : Int} {s : Seg} (h : Rows rows nb t) (hs : SegOk s) (ht : t + s.len ≤ t') (hk : s.kind = "brake") : Rows (rows ++ [s]) (nb + 1) t' :=
  ⟨fun x hx => by
    rcases List.mem_append.mp hx with q | q
    · exact h.ok x q
    · rw [List.mem_singleton.mp q]; exact hs, by rw [nBr_app, nBr_one s hk, h.nb], by
    have := h.t
    rw [tot_app, tot_one]; omega⟩
theorem Rows.ins {rows : List Seg} {nb : Nat} {t t' : Int} {s : Seg} (h : Rows rows nb t) (i : Nat) (hs : SegOk s) (ht : t + s.len ≤ t') (hk : s.kind ≠ "brake") : Rows (rows.take i ++ [s] ++ rows.drop i) nb t' :=
  ⟨fun x hx => by
    simp only [List.mem_append, List.mem_singleton] at hx
    rcases hx with (q | q) | q
    · exact h.ok x (List.mem_of_mem_take q)
    · rw [q]; exact hs
    · exact h.ok x (List.mem_of_mem_drop q), by
    have e : nBr rows = nBr (rows.take i) + nBr (rows.drop i) := by rw [← nBr_app, List.take_append_drop]
    rw [nBr_app, nBr_app, nBr_non s hk, ← h.nb, e]; omega, by
    have := h.t
    have e : tot rows = tot (rows.take i) + tot (rows.drop i) := by rw [← tot_app, List.take_append_drop]
    rw [tot_app, tot_app, tot_one]; omega⟩
def lastBr (rows : List Seg) : Prop := ∃ r s, rows = r ++ [s] ∧ s.kind = ("brake" : Str)
theorem lastBr.ins {rows : List Seg} (h : lastBr rows) {i : Nat} (hi : i < rows.length) (s : Seg) : lastBr (rows.take i ++ [s] ++ rows.drop i) := by
  obtain ⟨r, b, rfl, hb⟩ := h
  have hi2 : i ≤ r.length := by simp at hi; omega
  exact ⟨r.take i ++ [s] ++ r.drop i, b, by rw [List.take_append_of_le_length hi2, List.drop_append_of_le_length hi2]; simp, hb⟩
structure Dr (ds : List Int) (n : Nat) : Prop where
  l : ds.length = n
  b : ∀ d ∈ ds, 0 ≤ d ∧ d < 4096
theorem Dr.at {ds : List Int} {n : Nat} (h : Dr ds n) {i : Int} (h0 : 0 ≤ i) (h1 : i < n) : atI ds i = some (gi ds i) := atI_gi h0 (by rw [h.l]; exact h1)
theorem Dr.r {ds : List Int} {n : Nat} (h : Dr ds n) {i : Int} (h0 : 0 ≤ i) (h1 : i < n) : 0 ≤ gi ds i ∧ gi ds i < 4096 := h.b _ (gi_mem h0 (by rw [h.l]; exact h1))
theorem kd_ex (x : Int) : ∃ kd : Str, (kd = "coast" ∨ kd = "lift") ∧ atI [P.str "coast", P.str "coast", P.str "lift"] (x % 3) = some (.str kd) := by
  have : x % 3 = 0 ∨ x % 3 = 1 ∨ x % 3 = 2 := by omega
  rcases this with h | h | h <;> rw [h]
  · exact ⟨_, .inl rfl, rfl⟩
  · exact ⟨_, .inl rfl, rfl⟩
  · exact ⟨_, .inr rfl, rfl⟩
/-- the rows of the loops -/
def JB1 (ds : List Int) (cnt : Int) (b : Nat) (k : Nat) (ρ : Z.Env) (S : Store) : Prop := ∃ (rows : List Seg) (h : Int) (o6 o7 o8 o9 o10 o11 : Option W),
  ρ = [some (.val (.lst (ds.map .int))), some (.val (.int 5)), some (.val (.int cnt)), some (.loc 0), some (.val (.int h)), some (.val (.int b)), o6, o7, o8, o9, o10, o11, none] ∧
  S = [.lst (rows.map fun s => .val (segP s))] ∧ Rows rows b (16 * b + 5 * k)
def JB2 (ds : List Int) (cnt : Int) (b : Nat) (ρ : Z.Env) (S : Store) : Prop := ∃ (rows : List Seg) (h : Int) (o5 o6 o7 o8 o9 o10 o11 : Option W),
  ρ = [some (.val (.lst (ds.map .int))), some (.val (.int 5)), some (.val (.int cnt)), some (.loc 0), some (.val (.int h)), o5, o6, o7, o8, o9, o10, o11, none] ∧
  S = [.lst (rows.map fun s => .val (segP s))] ∧ Rows rows b (16 * b) ∧ (0 < b → lastBr rows)
theorem b1_ok {ds : List Int} (hd : Dr ds 30) (cnt : Int) (b : Nat) (hb : b < 3) (m : Nat) (hm : m ≤ 2) : ∀ (k : Nat) ρ S, k < m → JB1 ds cnt b k ρ S → ((bindR (bindT (.nm 6) (.int (0 + (k : Int))) ρ) S).seq m_l_drawn_segments_b1).goes (JB1 ds cnt b (k + 1)) := by
  rintro k _ _ hk ⟨rows, h, o6, o7, o8, o9, o10, o11, rfl, rfl, hr⟩
  have e := hd.at (i := 4 + 3 * (b : Int) + k) (by omega) (by omega)
  have r := hd.r (i := 4 + 3 * (b : Int) + k) (by omega) (by omega)
  generalize gi ds (4 + 3 * (b : Int) + k) = d at e r
  obtain ⟨kd, hk2, ek⟩ := kd_ex d
  have hl : rows.length < 100000 := by
    have := tot_len hr.ok; have := hr.t; omega
  simp (disch := omega) [m_l_drawn_segments_b1, mulOk_c, mulOk_d, e, ek, hl]
  refine ⟨rows ++ [⟨kd, 1 + d / 200 % 5, d / 3 % 61 - 30⟩], _, _, _, _, _, _, _, rfl, by rw [List.map_append] <;> rfl, ?_⟩
  refine hr.snoc ⟨?_, ?_, ?_, ?_, ?_⟩ ?_ ?_
  · rcases hk2 with q | q
    · exact .inl q
    · exact .inr (.inl q)
  all_goals simp only [] <;> first | omega | skip
  rcases hk2 with q | q <;> simp [q]
theorem b2_ok {ds : List Int} (hd : Dr ds 30) (cnt : Int) (n : Nat) (hn : n ≤ 3) : ∀ (k : Nat) ρ S, k < n → JB2 ds cnt k ρ S → ((bindR (bindT (.nm 5) (.int (0 + (k : Int))) ρ) S).seq m_l_drawn_segments_b2).goes (JB2 ds cnt (k + 1)) := by
  rintro k _ _ hk ⟨rows, h, o5, o6, o7, o8, o9, o10, o11, rfl, rfl, hr, hlb⟩
  have e1 := hd.at (i := 1 + k) (by omega) (by omega)
  have r1 := hd.r (i := 1 + k) (by omega) (by omega)
  generalize gi ds (1 + k) = d1 at e1 r1
  have e2 := hd.at (i := 17 + k) (by omega) (by omega)
  have r2 := hd.r (i := 17 + k) (by omega) (by omega)
  generalize gi ds (17 + k) = d2 at e2 r2
  have e3 := hd.at (i := 14 + k) (by omega) (by omega)
  have r3 := hd.r (i := 14 + k) (by omega) (by omega)
  generalize gi ds (14 + k) = d3 at e3 r3
  have L := for_rng (JB1 ds cnt k) (lo := 0) (n := (d1 % 3).toNat) (b1_ok hd cnt k (by omega) _ (by omega)) (ρ := [some (.val (.lst (ds.map .int))), some (.val (.int 5)), some (.val (.int cnt)), some (.loc 0), some (.val (.int h)), some (.val (.int k)), o6, o7, o8, o9, o10, o11, none])
    (S := [.lst (rows.map fun s => .val (segP s))]) ⟨rows, h, _, _, _, _, _, _, rfl, rfl, by simpa using hr⟩
  obtain ⟨_, _, eL, rows2, h2, p6, p7, p8, p9, p10, p11, rfl, rfl, hr2⟩ := L
  have hl : rows2.length < 100000 := by
    have := tot_len hr2.ok; have := hr2.t; omega
  have ert : rngOk 0 (d1 % 3) = true := rngOk_of (by omega) (by omega) (by omega) (by omega)
  have lastat : ∀ w : W, atI (rows2.map (fun s => W.val (segP s)) ++ [w]) (-1) = some w := fun w => atI_last _ _
  simp (disch := omega) [m_l_drawn_segments_b2, mulOk_c, mulOk_d, e1, e2, e3, ert, eL, hl, ixW_loc, lastat]
  refine ⟨rows2 ++ [⟨"brake", 1 + d3 % 6, d2 % 5 - 2⟩], _, _, _, _, _, _, _, _, rfl, by rw [List.map_append] <;> rfl, ?_, fun _ => ⟨rows2, _, rfl, rfl⟩⟩
  refine hr2.brake ⟨.inr (.inr rfl), ?_, ?_, ?_, ?_⟩ ?_ rfl
  all_goals simp only [] <;> first | omega | skip
def JB3 (ds : List Int) (cnt : Int) (nb : Nat) (k : Nat) (ρ : Z.Env) (S : Store) : Prop := ∃ (rows : List Seg) (h left : Int) (o5 o6 o7 o8 o9 o10 o11 : Option W),
  ρ = [some (.val (.lst (ds.map .int))), some (.val (.int 5)), some (.val (.int cnt)), some (.loc 0), some (.val (.int h)), o5, o6, o7, o8, o9, o10, o11, some (.val (.int left))] ∧
  S = [.lst (rows.map fun s => .val (segP s))] ∧ Rows rows nb (500 + k) ∧ lastBr rows
theorem kd2_ex (c : Prop) [Decidable c] : ∃ kd : Str, (kd = "coast" ∨ kd = "lift") ∧ atI [P.str "coast", P.str "lift"] (if c then 1 else 0) = some (.str kd) := by
  split
  · exact ⟨_, .inr rfl, rfl⟩
  · exact ⟨_, .inl rfl, rfl⟩
theorem kd3_ex (kd : Str) (x : Int) (h : kd = "coast" ∨ kd = "lift") : ∃ kd' : Str, (kd' = "coast" ∨ kd' = "lift") ∧ atI [P.str kd, P.str "coast"] (x % 2) = some (.str kd') := by
  have : x % 2 = 0 ∨ x % 2 = 1 := by omega
  rcases this with q | q <;> rw [q]
  · exact ⟨_, h, rfl⟩
  · exact ⟨_, .inl rfl, rfl⟩
theorem b3_ok {ds : List Int} (hd : Dr ds 30) (cnt : Int) (nb : Nat) : ∀ (k : Nat) ρ S, k < 40 → JB3 ds cnt nb k ρ S → ((bindR (bindT (.nm 6) (.int (0 + (k : Int))) ρ) S).seq m_l_drawn_segments_b3).goes (JB3 ds cnt nb (k + 1)) := by
  rintro k _ _ hk ⟨rows, h, left, o5, o6, o7, o8, o9, o10, o11, rfl, rfl, hr, hlb⟩
  have e1 := hd.at (i := 21) (by omega) (by omega)
  generalize gi ds 21 = d1 at e1
  have hl : rows.length < 100000 := by
    have := tot_len hr.ok; have := hr.t; omega
  obtain ⟨sl, hs, hs1, hs2⟩ : ∃ sl : Int, (if -90 < if left < 90 then left else 90 then if left < 90 then left else 90 else -90) = sl ∧ -90 ≤ sl ∧ sl ≤ 90 := ⟨_, rfl, by split <;> split <;> omega, by split <;> split <;> omega⟩
  obtain ⟨kd, hk2, ek⟩ := kd2_ex (0 < sl)
  obtain ⟨kd', hk3, ek'⟩ := kd3_ex kd d1 hk2
  simp (disch := omega) [m_l_drawn_segments_b3, mulOk_c, mulOk_d, e1, hl, hs, ek, ek']
  have hins : Rows ([] ++ [⟨kd', 1, sl⟩] ++ rows) nb (500 + (k + 1)) := by
    have := hr.ins (t' := 500 + (k + 1)) 0 (s := ⟨kd', 1, sl⟩) ⟨?_, ?_, ?_, ?_, ?_⟩ ?_ ?_
    · simpa using this
    · rcases hk3 with q | q
      · exact .inl q
      · exact .inr (.inl q)
    all_goals simp only [] <;> first | omega | skip
    rcases hk3 with q | q <;> simp [q]
  split
  · exact ⟨rows, _, _, _, _, _, _, _, _, _, rfl, rfl, ⟨hr.ok, hr.nb, by have := hr.t; push_cast; omega⟩, hlb⟩
  · refine ⟨⟨kd', 1, sl⟩ :: rows, _, _, _, _, _, _, _, _, _, rfl, rfl, by simpa using hins, ?_⟩
    obtain ⟨r, b, rfl, hb⟩ := hlb
    exact ⟨_ :: r, b, rfl, hb⟩
theorem len5 (x : Int) : ∃ l : Int, 1 ≤ l ∧ l ≤ 300 ∧ atI [P.int 1, P.int 1, P.int 1, P.int 1, P.int 300] (x % 5) = some (.int l) := by
  have : x % 5 = 0 ∨ x % 5 = 1 ∨ x % 5 = 2 ∨ x % 5 = 3 ∨ x % 5 = 4 := by omega
  rcases this with q | q | q | q | q <;> rw [q]
  · exact ⟨1, by omega, by omega, rfl⟩
  · exact ⟨1, by omega, by omega, rfl⟩
  · exact ⟨1, by omega, by omega, rfl⟩
  · exact ⟨1, by omega, by omega, rfl⟩
  · exact ⟨300, by omega, by omega, rfl⟩
theorem segments_ok {ds : List Int} (hd : Dr ds 30) : ∃ rows nb, m_l_drawn_segments [.lst (ds.map .int), .int 5] = .ok (.lst (rows.map segP)) ∧ Rows rows nb 540 ∧ lastBr rows ∧ 2 ≤ nb ∧ nb ≤ 3 := by
  have e0 := hd.at (i := 0) (by omega) (by omega)
  have e1 := hd.at (i := 20) (by omega) (by omega)
  have r1 := hd.r (i := 20) (by omega) (by omega)
  have e2 := hd.at (i := 22) (by omega) (by omega)
  generalize gi ds 0 = d0 at e0
  generalize gi ds 20 = d1 at e1 r1
  generalize gi ds 22 = d2 at e2
  obtain ⟨n, hn, hn1, hn2⟩ : ∃ n : Nat, 2 + d0 % 2 = (n : Int) ∧ 2 ≤ n ∧ n ≤ 3 := ⟨(2 + d0 % 2).toNat, by omega, by omega, by omega⟩
  obtain ⟨l5, h51, h52, e5⟩ := len5 d2
  obtain ⟨_, _, eL, rows, h, o5, o6, o7, o8, o9, o10, o11, rfl, rfl, hr, hlb⟩ := for_rng (JB2 ds n) (lo := 0) (n := n) (b2_ok hd n n hn2) (ρ := [some (.val (.lst (ds.map .int))), some (.val (.int 5)), some (.val (.int n)), some (.loc 0), some (.val (.int 0)), none, none, none, none, none, none, none, none])
    (S := [.lst []]) ⟨[], 0, _, _, _, _, _, _, _, rfl, rfl, Rows.nil, fun h => absurd h (by omega)⟩
  have hlb := hlb (by omega)
  have hl : rows.length < 100000 := by
    have := tot_len hr.ok; have := hr.t; omega
  have hpos : 0 < rows.length := by
    obtain ⟨r, b, rfl, _⟩ := hlb; simp
  have hi0 : 0 ≤ d1 % (rows.length : Int) := Int.emod_nonneg _ (by omega)
  have hi1 : d1 % (rows.length : Int) < rows.length := Int.emod_lt_of_pos _ (by omega)
  have hz : ¬ (rows.length : Int) = 0 := by omega
  have ert : rngOk 0 (n : Int) = true := rngOk_of (by omega) (by omega) (by omega) (by omega)
  have ert40 : rngOk 0 40 = true := rngOk_of (by omega) (by omega) (by omega) (by omega)
  unfold m_l_drawn_segments
  simp (disch := omega) [runP_ap, envOf_ap, mulOk_c, mulOk_d, e0, e1, e2, hn, ert, eL, e5, hl, hz, ert40]
  rw [if_pos hpos, if_pos ⟨hi0, by omega⟩]
  have hins := hr.ins (t' := 500) (d1 % (rows.length : Int)).toNat (s := ⟨"coast", l5, 0⟩) ⟨.inl rfl, h51, by simp only []; omega, by simp only []; omega, by simp only []; omega⟩ (by simp only []; omega) (by simp)
  have hlb2 := hlb.ins (i := (d1 % (rows.length : Int)).toNat) (by omega) ⟨"coast", l5, 0⟩
  obtain ⟨_, _, eL3, rows3, h3, left3, q5, q6, q7, q8, q9, q10, q11, rfl, rfl, hr3, hlb3⟩ := for_rng (JB3 ds n n) (lo := 0) (n := 40) (b3_ok hd n n) (ρ := [some (.val (.lst (ds.map .int))), some (.val (.int 5)), some (.val (.int n)), some (.loc 0), some (.val (.int h)), o5, o6, o7, o8, o9, o10, o11, some (.val (.int (-h)))])
    (S := [Cell.lst (List.take (d1 % ↑rows.length).toNat (List.map (fun s => W.val (segP s)) rows) ++ W.val (P.tup [P.str (Str.ofString "coast"), P.int l5, P.int 0]) :: List.drop (d1 % ↑rows.length).toNat (List.map (fun s => W.val (segP s)) rows))])
    ⟨rows.take (d1 % (rows.length : Int)).toNat ++ [⟨"coast", l5, 0⟩] ++ rows.drop (d1 % (rows.length : Int)).toNat, h, -h, _, _, _, _, _, _, _, rfl, by simp [List.map_take, List.map_drop, segP], by simpa using hins, by simpa using hlb2⟩
  refine ⟨rows3, ?_, n, ⟨hr3.ok, hr3.nb, by have := hr3.t; omega⟩, hlb3, hn1, hn2⟩
  rw [eL3]
  simp

def hgt (rows : List Seg) : Int := (rows.map fun s => s.len * s.slope).sum
structure Lay (rows : List Seg) : Prop where
  ok : ∀ s ∈ rows, SegOk s
  n1 : 2 ≤ nBr rows
  n2 : nBr rows ≤ 12
  t : tot rows ≤ 4000
  h : hgt rows = 0
  l : lastBr rows
theorem mul_seg {s : Seg} (h : SegOk s) : mulOk s.len s.slope = true := by
  have := h.l1; have := h.l2
  exact mulOk_d (by omega)
theorem lay_len {rows : List Seg} (h : ∀ s ∈ rows, SegOk s) (ht : tot rows ≤ 4000) : rows.length ≤ 4000 := by
  have := tot_len h; omega
theorem layout_ok {ds : List Int} (hd : Dr ds 30) : ∃ rows, Lay rows ∧ m_l_drawn_layout [.lst (ds.map .int)] = .ok (.lst (rows.map segP)) := by
  obtain ⟨rows, nb, e, hr, hl, h1, h2⟩ := segments_ok hd
  have hlen : rows.length ≤ 100000 := by
    have := lay_len hr.ok (by have := hr.t; omega); omega
  have el : ∀ (a b : Option W), lcGo [3, 4, 5] (.tp [.nm 3, .nm 4, .nm 5]) cYes (eBin mulW (eVar 4) (eVar 5)) [some (.val (.lst (ds.map .int))), some (.val (.lst (rows.map segP))), none, none, none, none] (rows.map segP) [] = .ok (rows.map fun s => .int (s.len * s.slope)) [] :=
    fun a b => lcGo_map segP _ (fun s hs => ⟨_, by simp [segP]; rfl, by simp [mul_seg (hr.ok s hs)]⟩)
  by_cases hz : hgt rows = 0
  · refine ⟨rows, ⟨hr.ok, by rw [hr.nb]; exact h1, by rw [hr.nb]; omega, by have := hr.t; omega, hz, hl⟩, ?_⟩
    unfold hgt at hz
    simp [m_l_drawn_layout, runP_ap, envOf_ap, e, el none none, hlen, hz]
  · refine ⟨[⟨"lift", 6, 25⟩, ⟨"coast", 5, -30⟩, ⟨"brake", 3, 0⟩, ⟨"coast", 3, 0⟩, ⟨"brake", 4, 0⟩], ⟨?_, by decide, by decide, by decide, by decide, ⟨[⟨"lift", 6, 25⟩, ⟨"coast", 5, -30⟩, ⟨"brake", 3, 0⟩, ⟨"coast", 3, 0⟩], _, rfl, rfl⟩⟩, ?_⟩
    · intro s hs
      simp at hs
      rcases hs with rfl | rfl | rfl | rfl | rfl <;> exact ⟨by simp, by simp, by simp, by simp, by simp⟩
    · unfold hgt at hz
      simp [m_l_drawn_layout, runP_ap, envOf_ap, e, el none none, hlen, hz, segP]
/-! metres -/
def brN (s : Seg) : Int := if s.kind = ("brake" : Str) then 1 else 0
abbrev Mt := Str × Int × Int
def metP (m : Mt) : P := .tup [.str m.1, .int m.2.1, .int m.2.2]
def metresL : Int → List Seg → List Mt
  | _, [] => []
  | b, s :: r => List.replicate s.len.toNat (s.kind, s.slope, b) ++ metresL (b + brN s) r
theorem metres_len : ∀ (b : Int) {rows : List Seg}, (∀ s ∈ rows, SegOk s) → ((metresL b rows).length : Int) = tot rows
  | _, [], _ => by simp [metresL, tot]
  | b, s :: r, h => by
    have a := metres_len (b + brN s) (rows := r) fun s hs => h s (List.mem_cons_of_mem _ hs)
    have q := (h s List.mem_cons_self).l1
    simp only [metresL, List.length_append, List.length_replicate]
    simp only [tot, List.map_cons, List.sum_cons] at a ⊢
    push_cast
    omega
def JM (rows : List Seg) (r : List Seg) (ρ : Z.Env) (S : Store) : Prop := ∃ (ms : List Mt) (b : Int) (o3 o4 o5 o6 : Option W), ρ = [some (.val (.lst (rows.map segP))), some (.loc 0), some (.val (.int b)), o3, o4, o5, o6] ∧
  S = [.lst (ms.map fun m => .val (metP m))] ∧ ms ++ metresL b r = metresL 0 rows ∧ ∀ s ∈ r, SegOk s
def JM1 (rows : List Seg) (s : Seg) (ms0 : List Mt) (b : Int) (k : Nat) (ρ : Z.Env) (S : Store) : Prop := ∃ (o6 : Option W), ρ = [some (.val (.lst (rows.map segP))), some (.loc 0), some (.val (.int b)), some (.val (.str s.kind)), some (.val (.int s.len)), some (.val (.int s.slope)), o6] ∧
  S = [.lst ((ms0 ++ List.replicate k (s.kind, s.slope, b)).map fun m => .val (metP m))]
theorem metres_ok {rows : List Seg} (h : Lay rows) : m_l_metres [.lst (rows.map segP)] = .ok (.lst ((metresL 0 rows).map metP)) := by
  have hml := metres_len 0 h.ok
  have ht := h.t
  obtain ⟨_, _, eL, ms, b, o3, o4, o5, o6, rfl, rfl, hms, _⟩ := for_lst segP (JM rows) (t := .tp [.nm 3, .nm 4, .nm 5]) (body := m_l_metres_b2) (by
    rintro s r _ _ ⟨ms, b, o3, o4, o5, o6, rfl, rfl, hms, hok⟩
    have hs := hok s List.mem_cons_self
    have hl1 := hs.l1
    have hl2 := hs.l2
    have hm0 : (ms ++ metresL b (s :: r)).length = (metresL 0 rows).length := by rw [hms]
    obtain ⟨_, _, e1, p6, rfl, rfl⟩ := for_rng (JM1 rows s ms b) (t := .nm 6) (body := m_l_metres_b1) (lo := 0) (n := s.len.toNat) (by
      rintro k _ _ hk ⟨o6, rfl, rfl⟩
      have hlen : ms.length + k < 100000 := by
        simp only [metresL, List.length_append, List.length_replicate] at hm0
        omega
      simp (disch := omega) [m_l_metres_b1, hlen]
      exact ⟨_, rfl, by simp [List.replicate_succ', metP]⟩) (ρ := [some (.val (.lst (rows.map segP))), some (.loc 0), some (.val (.int b)), some (.val (.str s.kind)), some (.val (.int s.len)), some (.val (.int s.slope)), o6]) (S := [.lst (ms.map fun m => .val (metP m))]) ⟨_, rfl, by simp⟩
    have ert : rngOk 0 s.len = true := rngOk_of (by omega) (by omega) (by omega) (by omega)
    simp (disch := omega) [segP, m_l_metres_b2, ert, e1]
    refine ⟨ms ++ List.replicate s.len.toNat (s.kind, s.slope, b), b + brN s, _, _, _, _, rfl, by simp, ?_, fun s hs => hok s (List.mem_cons_of_mem _ hs)⟩
    rw [← hms, metresL, List.append_assoc]) (xs := rows) (ρ := [some (.val (.lst (rows.map segP))), some (.loc 0), some (.val (.int 0)), none, none, none, none]) (S := [.lst []]) ⟨[], 0, _, _, _, _, rfl, rfl, rfl, h.ok⟩
  simp only [metresL, List.append_nil] at hms
  subst hms
  simp [m_l_metres, runP_ap, envOf_ap, eL]

theorem check_ok {rows : List Seg} (h : Lay rows) : m_check_segments [.lst (rows.map segP)] = .ok .non := by
  have hlen := lay_len h.ok h.t
  have hlen5 : rows.length ≤ 100000 := by omega
  obtain ⟨_, _, eL, o1, o2, o3, o4, rfl, rfl, _⟩ := for_lst segP (fun r (ρ : Z.Env) S => ∃ (o1 o2 o3 o4 : Option W), ρ = [some (.val (.lst (rows.map segP))), o1, o2, o3, o4] ∧ S = [] ∧ ∀ s ∈ r, SegOk s) (t := .tp [.nm 1, .nm 2, .nm 3]) (body := m_check_segments_b1) (by
    rintro s r _ _ ⟨o1, o2, o3, o4, rfl, rfl, hok⟩
    have hs := hok s List.mem_cons_self
    have hk : s.kind = "coast" ∨ s.kind = "lift" ∨ s.kind = "brake" := hs.k
    have h1 := hs.l1
    have h2 := hs.l2
    have h3 := hs.s1
    have h4 := hs.s2
    rcases hk with q | q | q <;> simp [segP, m_check_segments_b1, q, h1, h2, h3, h4] <;> exact fun s hs => hok s (List.mem_cons_of_mem _ hs)) (xs := rows) (ρ := [some (.val (.lst (rows.map segP))), none, none, none, none]) (S := []) ⟨_, _, _, _, rfl, rfl, h.ok⟩
  have e1 : ∀ (a b c : Option W), lcGo [4, 2] (.tp [.nm 4, .nm 2, .nm 4]) cYes (eVar 2) [some (.val (.lst (rows.map segP))), a, b, c, o4] (rows.map segP) [] = .ok (rows.map fun s => .int s.len) [] :=
    fun a b c => lcGo_map segP _ fun s hs => ⟨_, by simp [segP]; rfl, by simp⟩
  have e2 : ∀ (a b c : Option W), lcGo [4, 2, 3] (.tp [.nm 4, .nm 2, .nm 3]) cYes (eBin mulW (eVar 2) (eVar 3)) [some (.val (.lst (rows.map segP))), a, b, c, o4] (rows.map segP) [] = .ok (rows.map fun s => .int (s.len * s.slope)) [] :=
    fun a b c => lcGo_map segP _ fun s hs => ⟨_, by simp [segP]; rfl, by simp [mul_seg (h.ok s hs)]⟩
  have e3 : ∀ (a b c : Option W), lcGo [1, 4] (.tp [.nm 1, .nm 4, .nm 4]) (tstB (eBin (eqW false) (eVar 1) (eCst (.str "brake")))) (eVar 1) [some (.val (.lst (rows.map segP))), a, b, c, o4] (rows.map segP) [] = .ok ((rows.filter fun s => decide (s.kind = ("brake" : Str))).map fun s => .str s.kind) [] :=
    fun a b c => lcGo_filter segP _ _ fun s hs => ⟨_, by simp [segP]; rfl, by simp, by simp⟩
  have h1 := h.t
  have h2 := h.h
  have h3 := h.n1
  have h4 := h.n2
  unfold tot at h1
  unfold hgt at h2
  unfold nBr at h3 h4
  have h1' : ¬ 4000 < (rows.map Seg.len).sum := by omega
  obtain ⟨r, b, hrb, hb⟩ := h.l
  have hz : rows.length ≠ 0 := by rw [hrb]; simp
  have hat : atI (rows.map segP) (-1) = some (segP b) := by rw [hrb, List.map_append]; exact atI_last _ _
  have hat2 : atI rows (-1) = some b := by rw [hrb]; exact atI_last _ _
  have hz2 : ¬ ((rows.length : Int) = 0) := by omega
  have h1'' : ¬ 4000 < (rows.map fun s => s.len).sum := h1'
  simp [m_check_segments, runP_ap, envOf_ap, eL, e1, e2, e3, hlen5, h1'', h2, hz, hat2, segP, hb]
  rw [if_pos (by omega), if_neg (by omega)]
/-! Layout -/
def isBr (s : Seg) : Bool := decide (s.kind = ("brake" : Str))
def beginsL : Int → List Seg → List Int
  | _, [] => []
  | m, s :: r => (if isBr s then [m + s.len] else []) ++ beginsL (m + s.len) r
def brakesL : Int → List Seg → List Int
  | _, [] => []
  | m, s :: r => (if isBr s then [m] else []) ++ brakesL (m + s.len) r
def upL (h sl : Int) : Nat → List Int
  | 0 => []
  | n + 1 => upL h sl n ++ [h + (n + 1) * sl]
def heightsL : Int → List Seg → List Int
  | _, [] => []
  | h, s :: r => upL h s.slope s.len.toNat ++ heightsL (h + s.len * s.slope) r
theorem upL_len (h sl : Int) : ∀ n, (upL h sl n).length = n
  | 0 => rfl
  | n + 1 => by simp [upL, upL_len h sl n]
def NSL : List Str := ["segments", "metres", "begins", "brakes", "heights"]
def layP (rows : List Seg) : P := .obj "Layout" NSL [.tup (rows.map segP), .lst ((metresL 0 rows).map metP), .lst ((0 :: beginsL 0 rows).map .int), .lst ((brakesL 0 rows).map .int), .lst ((0 :: heightsL 0 rows).map .int)]
def stL (rows : List Seg) (ms : List Mt) (bs br hs : List Int) : Store := [.ins "Layout" NSL [.val (.tup (rows.map segP)), .loc 1, .loc 2, .loc 3, .loc 4], .lst (ms.map fun m => .val (metP m)), .lst (bs.map fun i => .val (.int i)), .lst (br.map fun i => .val (.int i)), .lst (hs.map fun i => .val (.int i))]
def JL (rows : List Seg) (r : List Seg) (ρ : Z.Env) (S : Store) : Prop := ∃ (ms : List Mt) (bs br hp : List Int) (h : Int) (b : Nat) (o2 o3 o4 o5 o6 : Option W),
  ρ = [some (.loc 0), some (.val (.lst (rows.map segP))), o2, o3, o4, o5, o6] ∧ S = stL rows ms bs br (hp ++ [h]) ∧
  (∀ s ∈ r, SegOk s) ∧ ms ++ metresL b r = metresL 0 rows ∧ bs ++ beginsL ms.length r = 0 :: beginsL 0 rows ∧ br ++ brakesL ms.length r = brakesL 0 rows ∧ hp ++ [h] ++ heightsL h r = 0 :: heightsL 0 rows ∧
  bs.length = b + 1 ∧ br.length ≤ ms.length ∧ b ≤ ms.length ∧ hp.length = ms.length
def JL1 (rows : List Seg) (s : Seg) (ms0 : List Mt) (bs br hp : List Int) (h : Int) (b : Nat) (k : Nat) (ρ : Z.Env) (S : Store) : Prop := ∃ (o6 : Option W), ρ = [some (.loc 0), some (.val (.lst (rows.map segP))), some (.val (.str s.kind)), some (.val (.int s.len)), some (.val (.int s.slope)), some (.val (.int b)), o6] ∧
  S = stL rows (ms0 ++ List.replicate k (s.kind, s.slope, (b : Int))) bs br (hp ++ [h] ++ upL h s.slope k)
theorem last_up (hp : List Int) (h sl : Int) (k : Nat) : atI ((hp ++ [h] ++ upL h sl k).map fun i => W.val (.int i)) (-1) = some (.val (.int (h + k * sl))) := by
  cases k with
  | zero => simp [upL]
  | succ k => simp only [upL, ← List.append_assoc, List.map_append, List.map_cons, List.map_nil, atI_snoc]; simp
theorem init_ok {rows : List Seg} (h : Lay rows) : m_Layout_init [.lst (rows.map segP)] = .ok (layP rows) := by
  have hml := metres_len 0 h.ok
  have ht := h.t
  obtain ⟨_, _, eL, ms, bs, br, hp, hh, b, o2, o3, o4, o5, o6, rfl, rfl, _, e1, e2, e3, e4, e5, e6, e7, e8⟩ := for_lst segP (JL rows) (t := .tp [.nm 2, .nm 3, .nm 4]) (body := m_Layout_init_b2) (by
    rintro s r _ _ ⟨ms, bs, br, hp, hh, b, o2, o3, o4, o5, o6, rfl, rfl, hok, e1, e2, e3, e4, e5, e6, e7, e8⟩
    have hs := hok s List.mem_cons_self
    have hl1 := hs.l1
    have hl2 := hs.l2
    have hm0 : (ms ++ metresL b (s :: r)).length = (metresL 0 rows).length := by rw [e1]
    simp only [metresL, List.length_append, List.length_replicate] at hm0
    have ert : rngOk 0 s.len = true := rngOk_of (by omega) (by omega) (by omega) (by omega)
    have L : ∀ br', ∃ o, forGo (.nm 6) m_Layout_init_b1 (rngP 0 s.len.toNat) [some (.loc 0), some (.val (.lst (rows.map segP))), some (.val (.str s.kind)), some (.val (.int s.len)), some (.val (.int s.slope)), some (.val (.int b)), o6] (stL rows ms bs br' (hp ++ [hh])) =
        .nx [some (.loc 0), some (.val (.lst (rows.map segP))), some (.val (.str s.kind)), some (.val (.int s.len)), some (.val (.int s.slope)), some (.val (.int b)), o] (stL rows (ms ++ List.replicate s.len.toNat (s.kind, s.slope, (b : Int))) bs br' (hp ++ [hh] ++ upL hh s.slope s.len.toNat)) := by
      intro br'
      obtain ⟨_, _, eq, p6, rfl, rfl⟩ := for_rng (JL1 rows s ms bs br' hp hh b) (t := .nm 6) (body := m_Layout_init_b1) (lo := 0) (n := s.len.toNat) (by
        rintro k _ _ hk ⟨o6, rfl, rfl⟩
        have hlen : ms.length + k < 100000 := by omega
        have hlen2 : hp.length + (1 + k) < 100000 := by omega
        have hlast := last_up hp hh s.slope k
        simp only [List.append_assoc] at hlast
        have hlen3 : hp.length + (k + 1) < 100000 := by omega
        simp (disch := omega) [m_Layout_init_b1, stL, NSL, hlen, hlen2, hlen3, ixW_loc, upL_len] at hlast ⊢
        simp (disch := omega) [hlast, upL_len, hlen, hlen2, hlen3]
        refine ⟨_, rfl, ?_⟩
        simp [stL, NSL, List.replicate_succ', metP, upL]
        rw [Int.add_mul, Int.one_mul]; omega) (ρ := [some (.loc 0), some (.val (.lst (rows.map segP))), some (.val (.str s.kind)), some (.val (.int s.len)), some (.val (.int s.slope)), some (.val (.int b)), o6]) (S := stL rows ms bs br' (hp ++ [hh])) ⟨o6, rfl, by simp [upL]⟩
      exact ⟨p6, eq⟩
    have hbr : br.length < 100000 := by omega
    have hbs : bs.length < 100000 := by omega
    have hbz : (bs.length : Int) - 1 = b := by omega
    have hlt : (s.len.toNat : Int) = s.len := by omega
    obtain ⟨n, hn⟩ : ∃ n : Nat, s.len.toNat = n + 1 := ⟨s.len.toNat - 1, by omega⟩
    have hn2 : s.len = n + 1 := by omega
    have hml2 : ((ms ++ List.replicate s.len.toNat (s.kind, s.slope, (b : Int))).length : Int) = ms.length + s.len := by simp; omega
    have f4 : hp ++ [hh] ++ upL hh s.slope s.len.toNat = (hp ++ [hh] ++ upL hh s.slope n) ++ [hh + s.len * s.slope] := by rw [hn, upL, hn2, List.append_assoc, List.append_assoc, List.append_assoc]
    have f5 : (hp ++ [hh] ++ upL hh s.slope n).length = (ms ++ List.replicate s.len.toNat (s.kind, s.slope, (b : Int))).length := by
      simp [upL_len, hn]; omega
    by_cases hb : s.kind = ("brake" : Str)
    · obtain ⟨o, eo⟩ := L (br ++ [(ms.length : Int)])
      simp [stL, NSL, hb] at eo
      simp (disch := omega) [segP, m_Layout_init_b2, stL, NSL, hb, hbr, hbs, hbz, ert, eo]
      have hbb : isBr s = true := by simp [isBr, hb]
      have hbn : brN s = 1 := by simp [brN, hb]
      refine ⟨ms ++ List.replicate s.len.toNat (s.kind, s.slope, (b : Int)), bs ++ [(ms.length : Int) + s.len], br ++ [(ms.length : Int)], hp ++ [hh] ++ upL hh s.slope n, hh + s.len * s.slope, b + 1, _, _, _, _, _, rfl, ?_, fun s hs => hok s (List.mem_cons_of_mem _ hs), ?_, ?_, ?_, ?_, ?_, ?_, ?_, ?_⟩
      · rw [← f4]; simp [stL, NSL, hb]; omega
      · rw [← e1, metresL, hbn, List.append_assoc]; rfl
      · rw [hml2, ← e2, beginsL, hbb]; simp
      · rw [hml2, ← e3, brakesL, hbb]; simp
      · rw [← f4, ← e4, heightsL]; simp
      · simp [e5]
      · simp; omega
      · simp; omega
      · exact f5
    · obtain ⟨o, eo⟩ := L br
      simp [stL, NSL] at eo
      simp (disch := omega) [segP, m_Layout_init_b2, stL, NSL, hb, hbr, hbs, hbz, ert, eo]
      have hbb : isBr s = false := by simp [isBr, hb]
      have hbn : brN s = 0 := by simp [brN, hb]
      refine ⟨ms ++ List.replicate s.len.toNat (s.kind, s.slope, (b : Int)), bs, br, hp ++ [hh] ++ upL hh s.slope n, hh + s.len * s.slope, b, _, _, _, _, _, rfl, ?_, fun s hs => hok s (List.mem_cons_of_mem _ hs), ?_, ?_, ?_, ?_, ?_, ?_, ?_, ?_⟩
      · rw [← f4]; simp [stL, NSL]
      · rw [← e1, metresL, hbn, List.append_assoc, Int.add_zero]
      · rw [hml2, ← e2, beginsL, hbb]; simp
      · rw [hml2, ← e3, brakesL, hbb]; simp
      · rw [← f4, ← e4, heightsL]; simp
      · exact e5
      · simp; omega
      · simp; omega
      · exact f5) (xs := rows) (ρ := [some (.loc 0), some (.val (.lst (rows.map segP))), none, none, none, none, none]) (S := stL rows [] [0] [] [0]) ⟨[], [0], [], [], 0, 0, _, _, _, _, _, rfl, rfl, h.ok, rfl, rfl, rfl, rfl, rfl, by simp, by simp, rfl⟩
  have hlen := lay_len h.ok h.t
  have hlen5 : rows.length ≤ 100000 := by omega
  simp only [metresL, beginsL, brakesL, heightsL, List.append_nil] at e1 e2 e3 e4
  subst e1 e3
  rw [e2, e4] at eL
  simp [stL, NSL] at eL
  simp [m_Layout_init, runI_ap, envOf_ap, check_ok h, hlen5, eL]
  simp [layP, NSL, stL]
theorem layoutP_ok {rows : List Seg} (h : Lay rows) : m_l_layout [.lst (rows.map segP)] = .ok (layP rows) := by
  have hlen := lay_len h.ok h.t
  have hlen5 : rows.length ≤ 100000 := by omega
  have e := lc_id segP (i := 1) (ρ := [some (.val (.lst (rows.map segP))), none]) (S := []) (xs := rows) (by simp)
  simp [m_l_layout, runP_ap, envOf_ap, e, hlen5, init_ok h]
/-! train -/
structure Tr where
  len : Int
  f0 : Int
  f1 : Int
  b0 : Int
  b1 : Int
  lift : Int
  drive : Int
structure TrOk (t : Tr) : Prop where
  a1 : 1 ≤ t.len
  a2 : t.len ≤ 100
  a3 : 0 ≤ t.f0
  a4 : t.f0 ≤ t.f1
  a5 : t.f1 ≤ 100000
  a6 : 1 ≤ t.b0
  a7 : t.b0 ≤ t.b1
  a8 : t.b1 ≤ 1000000
  a9 : 1 ≤ t.lift
  a10 : t.lift ≤ 10000000
  a11 : 1 ≤ t.drive
  a12 : t.drive ≤ 10000000
def datP (t : Tr) : P := .lst [.int t.len, .tup [.int t.f0, .int t.f1], .tup [.int t.b0, .int t.b1], .int t.lift, .int t.drive]
def trP (t : Tr) : P := .obj "Train" ["length", "friction", "brake", "lift", "drive"] [.int t.len, .tup [.int t.f0, .int t.f1], .tup [.int t.b0, .int t.b1], .int t.lift, .int t.drive]
theorem intv_ok (a b : Int) (h : a ≤ b) : m_is_interval [.tup [.int a, .int b]] = .ok (.bl true) := by
  simp [m_is_interval, runP_ap, envOf_ap, h]
theorem trinit_ok {t : Tr} (h : TrOk t) : m_Train_init [.int t.len, .tup [.int t.f0, .int t.f1], .tup [.int t.b0, .int t.b1], .int t.lift, .int t.drive] = .ok (trP t) := by
  obtain ⟨a1, a2, a3, a4, a5, a6, a7, a8, a9, a10, a11, a12⟩ := h
  have b3 : ¬ t.f0 < 0 := by omega
  have b5 : ¬ 100000 < t.f1 := by omega
  have b6 : ¬ t.b0 < 1 := by omega
  have b8 : ¬ 1000000 < t.b1 := by omega
  simp [m_Train_init, runI_ap, envOf_ap, intv_ok _ _ a4, intv_ok _ _ a7, a1, a2, b3, b5, b6, b8, a9, a10, a11, a12, trP]
theorem trainP_ok {t : Tr} (h : TrOk t) : m_l_train [datP t] = .ok (trP t) := by
  simp [m_l_train, runP_ap, envOf_ap, datP, trinit_ok h]
theorem data_ok {ds : List Int} (hd : Dr ds 30) : ∃ t, TrOk t ∧ m_l_drawn_train [.lst (ds.map .int)] = .ok (datP t) := by
  have e0 := hd.at (i := 0) (by omega) (by omega)
  have r0 := hd.r (i := 0) (by omega) (by omega)
  have e1 := hd.at (i := 1) (by omega) (by omega)
  have r1 := hd.r (i := 1) (by omega) (by omega)
  have e2 := hd.at (i := 2) (by omega) (by omega)
  have e3 := hd.at (i := 3) (by omega) (by omega)
  have e4 := hd.at (i := 4) (by omega) (by omega)
  have r4 := hd.r (i := 4) (by omega) (by omega)
  have e5 := hd.at (i := 5) (by omega) (by omega)
  have r5 := hd.r (i := 5) (by omega) (by omega)
  have e6 := hd.at (i := 6) (by omega) (by omega)
  have r6 := hd.r (i := 6) (by omega) (by omega)
  generalize gi ds 0 = d0 at *
  generalize gi ds 1 = d1 at *
  generalize gi ds 2 = d2 at *
  generalize gi ds 3 = d3 at *
  generalize gi ds 4 = d4 at *
  generalize gi ds 5 = d5 at *
  generalize gi ds 6 = d6 at *
  refine ⟨⟨1 + d2 % 4, d0 % 400, d0 % 400 + d3 % 900, 5000 + 73 * d1, 5000 + 73 * d1 + 10 * d4, 1 + 30 * d5, 1 + 20 * d6⟩, ?_, ?_⟩
  · constructor <;> simp only [] <;> omega
  · simp (disch := omega) [m_l_drawn_train, runP_ap, envOf_ap, e0, e1, e2, e3, e4, e5, e6, mulOk_c, mulOk_d, datP]

def mx (a b : Int) : Int := if b > a then b else a
def stP : Option Int → P
  | none => .non
  | some i => .int i
/-- the energy behind a metre -/
def aft (m : Mt) (t : Tr) (e fr : Int) (st : Option Int) : Int :=
  if m.1 = ("lift" : Str) then mx t.lift (e - 1962 * m.2.1 - fr)
  else if m.1 = ("brake" : Str) then match st with
    | none => mx t.drive (e - 1962 * m.2.1 - fr)
    | some s => if e = 0 then 0 else mx 0 (e - 1962 * m.2.1 - fr - s)
  else if e = 0 then 0 else mx 0 (e - 1962 * m.2.1 - fr)
theorem mx_l (a b : Int) : a ≤ mx a b := by unfold mx; split <;> omega
theorem aft_nn {m : Mt} {t : Tr} (ht : TrOk t) {e fr : Int} {st : Option Int} : 0 ≤ aft m t e fr st := by
  have := ht.a9; have := ht.a11
  unfold aft
  split
  · have := mx_l t.lift (e - 1962 * m.2.1 - fr); omega
  · split
    · cases st with
      | none => have := mx_l t.drive (e - 1962 * m.2.1 - fr); simp only []; omega
      | some s =>
        simp only []
        split
        · omega
        · exact mx_l _ _
    · split
      · omega
      · exact mx_l _ _
theorem after_ok {m : Mt} {t : Tr} {e fr : Int} {st : Option Int} : m_l_after [metP m, datP t, .int e, .int fr, stP st] = .ok (.int (aft m t e fr st)) := by
  obtain ⟨k, sl, b⟩ := m
  unfold aft
  by_cases h1 : k = ("lift" : Str)
  · simp (disch := omega) [m_l_after, runP_ap, envOf_ap, metP, datP, h1, mulOk_d, mx]
  · by_cases h2 : k = ("brake" : Str)
    · cases st with
      | none => simp (disch := omega) [m_l_after, runP_ap, envOf_ap, metP, datP, h2, mulOk_d, stP, mx]
      | some s =>
        by_cases h3 : e = 0 <;> simp (disch := omega) [m_l_after, runP_ap, envOf_ap, metP, datP, h2, mulOk_d, stP, mx, h3]
    · by_cases h3 : e = 0 <;> simp (disch := omega) [m_l_after, runP_ap, envOf_ap, metP, datP, h1, h2, mulOk_d, stP, mx, h3]
@[simp] theorem lay_isO (rows : List Seg) (m : Str) : isObjC "Layout" m (layP rows) = !NSL.contains m := by simp [layP]
@[simp] theorem lay_metres (rows : List Seg) (S : Store) : fldOf "Layout" "metres" S (.val (layP rows)) = some (.val (.lst ((metresL 0 rows).map metP))) := by simp [layP, NSL]
@[simp] theorem tr_lift (t : Tr) (S : Store) : fldOf "Train" "lift" S (.val (trP t)) = some (.val (.int t.lift)) := by simp [trP]
@[simp] theorem tr_fric (t : Tr) (S : Store) : fldOf "Train" "friction" S (.val (trP t)) = some (.val (.tup [.int t.f0, .int t.f1])) := by simp [trP]
@[simp] theorem tr_brk (t : Tr) (S : Store) : fldOf "Train" "brake" S (.val (trP t)) = some (.val (.tup [.int t.b0, .int t.b1])) := by simp [trP]
@[simp] theorem tr_len (t : Tr) (S : Store) : fldOf "Train" "length" S (.val (trP t)) = some (.val (.int t.len)) := by simp [trP]
@[simp] theorem lay_begins (rows : List Seg) (S : Store) : fldOf "Layout" "begins" S (.val (layP rows)) = some (.val (.lst ((0 :: beginsL 0 rows).map .int))) := by simp [layP, NSL]
@[simp] theorem lay_brakes (rows : List Seg) (S : Store) : fldOf "Layout" "brakes" S (.val (layP rows)) = some (.val (.lst ((brakesL 0 rows).map .int))) := by simp [layP, NSL]
@[simp] theorem tr_drive (t : Tr) (S : Store) : fldOf "Train" "drive" S (.val (trP t)) = some (.val (.int t.drive)) := by simp [trP]
theorem chk_ok (rows : List Seg) (m : Int) (h0 : 0 ≤ m) (h1 : m < (metresL 0 rows).length) : m_Layout_check_metre [layP rows, .int m] = .ok .non := by
  simp [m_Layout_check_metre, runP_ap, envOf_ap, h0, h1]
theorem chk_bad (rows : List Seg) (m : Int) (h0 : ¬ (0 ≤ m ∧ m < (metresL 0 rows).length)) : m_Layout_check_metre [layP rows, .int m] = .ex ⟨"BadNumber", [], []⟩ := by
  by_cases h : 0 ≤ m
  · have : ¬ m < (metresL 0 rows).length := fun q => h0 ⟨h, q⟩
    simp [m_Layout_check_metre, runP_ap, envOf_ap, h, this]
  · simp [m_Layout_check_metre, runP_ap, envOf_ap, h]
theorem che_ok (rows : List Seg) (m e : Int) (h0 : 0 ≤ m) (h1 : m < (metresL 0 rows).length) (he : 0 ≤ e) : m_check_energy [layP rows, .int m, .int e] = .ok .non := by
  have := chk_ok rows m h0 h1
  have he2 : ¬ e < 0 := by omega
  simp [m_check_energy, runP_ap, envOf_ap, NSL, this, he2]
theorem che_m (rows : List Seg) (m e : Int) (h0 : ¬ (0 ≤ m ∧ m < (metresL 0 rows).length)) : m_check_energy [layP rows, .int m, .int e] = .ex ⟨"BadNumber", [], []⟩ := by
  have := chk_bad rows m h0
  simp [m_check_energy, runP_ap, envOf_ap, NSL, this]
theorem che_e (rows : List Seg) (m e : Int) (h0 : 0 ≤ m) (h1 : m < (metresL 0 rows).length) (he : e < 0) : m_check_energy [layP rows, .int m, .int e] = .ex ⟨"BadNumber", [], []⟩ := by
  have := chk_ok rows m h0 h1
  simp [m_check_energy, runP_ap, envOf_ap, NSL, this, he]
theorem metre_ok (rows : List Seg) (m : Int) (mt : Mt) (h0 : 0 ≤ m) (h1 : m < (metresL 0 rows).length) (hm : atI (metresL 0 rows) m = some mt) : m_Layout_metre [layP rows, .int m] = .ok (metP mt) := by
  have := chk_ok rows m h0 h1
  simp [m_Layout_metre, runP_ap, envOf_ap, NSL, this, hm]
theorem aftm_ok (rows : List Seg) {t : Tr} (m : Int) (mt : Mt) {e fr : Int} {st : Option Int} (he : 0 ≤ e) (h0 : 0 ≤ m) (h1 : m < (metresL 0 rows).length) (hm : atI (metresL 0 rows) m = some mt) :
    m_after_metre [layP rows, trP t, .int m, .int e, .int fr, stP st] = .ok (.int (aft mt t e fr st)) := by
  have a1 := che_ok rows m e h0 h1 he
  have a2 := metre_ok rows m mt h0 h1 hm
  obtain ⟨k, sl, b⟩ := mt
  unfold aft
  by_cases h1 : k = ("lift" : Str)
  · simp (disch := omega) [m_after_metre, runP_ap, envOf_ap, NSL, metP, a1, a2, h1, mulOk_d, mx]
  · by_cases h2 : k = ("brake" : Str)
    · cases st with
      | none => simp (disch := omega) [m_after_metre, runP_ap, envOf_ap, NSL, metP, a1, a2, h2, mulOk_d, stP, mx]
      | some s =>
        by_cases h3 : e = 0
        · subst h3
          simp (disch := omega) [m_after_metre, runP_ap, envOf_ap, NSL, metP, a1, a2, h2, mulOk_d, stP, mx]
        · have : 0 < e := by omega
          simp (disch := omega) [m_after_metre, runP_ap, envOf_ap, NSL, metP, a1, a2, h2, mulOk_d, stP, mx, h3, this]
    · by_cases h3 : e = 0
      · subst h3
        simp (disch := omega) [m_after_metre, runP_ap, envOf_ap, NSL, metP, a1, a2, h1, h2, mulOk_d, mx]
      · have : 0 < e := by omega
        simp (disch := omega) [m_after_metre, runP_ap, envOf_ap, NSL, metP, a1, a2, h1, h2, mulOk_d, stP, mx, h3, this]
theorem total_ok (rows : List Seg) : m_Layout_total [layP rows] = .ok (.int (metresL 0 rows).length) := by
  simp [m_Layout_total, runP_ap, envOf_ap]
/-! the roll -/
def rollL (ms : List Mt) (t : Tr) : Int → Int → List (Int × Option Int) → List Int
  | _, _, [] => []
  | p, e, (f, s) :: r => match atI ms (p % ms.length) with
    | some m => aft m t e f s :: rollL ms t (p + 1) (aft m t e f s) r
    | none => []
theorem rollL_cons (ms : List Mt) (t : Tr) (p e : Int) (f : Int) (s : Option Int) (r : List (Int × Option Int)) (m : Mt) (h : atI ms (p % ms.length) = some m) :
    rollL ms t p e ((f, s) :: r) = aft m t e f s :: rollL ms t (p + 1) (aft m t e f s) r := by rw [rollL, h]
theorem pos_ok (ms : List Mt) (h : 0 < ms.length) (p : Int) : 0 ≤ p % (ms.length : Int) ∧ p % (ms.length : Int) < ms.length ∧ ∃ m, atI ms (p % ms.length) = some m := by
  have h0 := Int.emod_nonneg p (b := (ms.length : Int)) (by omega)
  have h1 := Int.emod_lt_of_pos p (b := (ms.length : Int)) (by omega)
  refine ⟨h0, h1, ?_⟩
  rw [atI_in h0 h1]
  exact ⟨_, List.getElem?_eq_getElem (by omega)⟩
def JRd (ms : List Mt) (t : Tr) (first e0 : Int) (fs : List (Int × Option Int)) (k : Nat) (ρ : Z.Env) (S : Store) : Prop := ∃ (acc : List Int) (e : Int) (o7 : Option W),
  ρ = [some (.val (.lst (ms.map metP))), some (.val (datP t)), some (.val (.int first)), some (.val (.int e)), some (.val (.lst (fs.map fun q => .int q.1))), some (.val (.lst (fs.map fun q => stP q.2))), some (.loc 0), o7] ∧
  S = [.lst (acc.map fun i => .val (.int i))] ∧ acc.length = k ∧ acc ++ rollL ms t (first + k) e (fs.drop k) = rollL ms t first e0 fs
def JRo (rows : List Seg) (t : Tr) (first e0 : Int) (fs : List (Int × Option Int)) (r : List (Int × Option Int)) (ρ : Z.Env) (S : Store) : Prop := ∃ (acc : List Int) (e : Int) (k : Nat) (p : Int) (o7 o8 : Option W),
  ρ = [some (.val (layP rows)), some (.val (trP t)), some (.val (.int p)), some (.val (.int e)), some (.val (.lst (fs.map fun q => .int q.1))), some (.val (.lst (fs.map fun q => stP q.2))), some (.loc 0), o7, o8] ∧
  S = [.lst (acc.map fun i => .val (.int i))] ∧ acc.length + r.length = fs.length ∧ acc ++ rollL (metresL 0 rows) t (first + k) e r = rollL (metresL 0 rows) t first e0 fs ∧ 0 ≤ e ∧ p = (first + k) % (metresL 0 rows).length
theorem roll_ok (rows : List Seg) (hm : 0 < (metresL 0 rows).length) (t : Tr) (ht : TrOk t) (first e0 : Int) (he : 0 ≤ e0) (h0 : 0 ≤ first) (h1 : first < (metresL 0 rows).length) (fs : List (Int × Option Int)) (hl : fs.length ≤ 50000) :
    m_roll [layP rows, trP t, .int first, .int e0, .lst (fs.map fun q => .int q.1), .lst (fs.map fun q => stP q.2)] = .ok (.lst ((rollL (metresL 0 rows) t first e0 fs).map .int)) := by
  have hz : ¬ (((metresL 0 rows).length : Int) = 0) := by omega
  have hz2 : ¬ ((metresL 0 rows).length = 0) := by omega
  obtain ⟨_, _, eL, acc, e, k, p, o7, o8, rfl, rfl, q1, q2, q3, q4⟩ := for_lst (fun q : Int × Option Int => P.tup [.int q.1, stP q.2]) (JRo rows t first e0 fs) (t := .tp [.nm 7, .nm 8]) (body := m_roll_b1) (by
    rintro ⟨f, s⟩ r _ _ ⟨acc, e, k, p, o7, o8, rfl, rfl, q1, q2, q3, q4⟩
    obtain ⟨p0, p1, m, p2⟩ := pos_ok (metresL 0 rows) hm (first + k)
    have p0' := p0
    have p1' := p1
    have p2' := p2
    rw [← q4] at p0' p1' p2'
    have ha := aftm_ok rows (t := t) p m (fr := f) (st := s) q3 p0' p1' p2'
    have hacc : acc.length < 100000 := by simp at q1; omega
    simp (disch := omega) [m_roll_b1, ha, hacc, NSL, total_ok, hm]
    refine ⟨acc ++ [aft m t e f s], _, k + 1, _, _, _, rfl, by simp, by simp at q1 ⊢; omega, ?_, aft_nn ht, ?_⟩
    · rw [← q2, rollL_cons _ _ _ _ _ _ _ m p2]
      simp [Int.add_assoc]
    · rw [q4, Int.emod_add_emod]; congr 1; push_cast; omega) (xs := fs) (ρ := [some (.val (layP rows)), some (.val (trP t)), some (.val (.int first)), some (.val (.int e0)), some (.val (.lst (fs.map fun q => .int q.1))), some (.val (.lst (fs.map fun q => stP q.2))), some (.loc 0), none, none]) (S := [.lst []])
      ⟨[], e0, 0, first, _, _, rfl, rfl, by simp, by simp, he, by rw [Int.emod_eq_of_lt] <;> simp <;> omega⟩
  have hc := che_ok rows first e0 h0 h1 he
  simp [rollL] at q2
  have hzip : List.map (fun q : P × P => P.tup [q.1, q.2]) ((fs.map fun q => P.int q.1).zip (fs.map fun q => stP q.2)) = fs.map fun q => P.tup [.int q.1, stP q.2] := by
    rw [List.zip_map', List.map_map]; rfl
  simp [m_roll, runP_ap, envOf_ap, hc]
  rw [hzip, eL]
  simp [q2]

/-! the blocks of a layout -/
theorem tot_cons (s : Seg) (r : List Seg) : tot (s :: r) = s.len + tot r := by simp [tot]
theorem nBr_cons (s : Seg) (r : List Seg) : nBr (s :: r) = (if isBr s then 1 else 0) + nBr r := by
  unfold nBr isBr
  rw [List.filter_cons]
  split <;> simp <;> omega
theorem tot_nn {rows : List Seg} (h : ∀ s ∈ rows, SegOk s) : 0 ≤ tot rows := by
  have := tot_len h; omega
structure BlkAt (m : Int) (bb : Int) (rows : List Seg) (i : Nat) (e k : Int) : Prop where
  k1 : m ≤ k
  k2 : k < e
  e1 : e ≤ m + tot rows
  br : ∃ mt, (metresL bb rows)[(e - 1 - m).toNat]? = some mt ∧ mt.1 = ("brake" : Str)
  nx : ∀ k', (brakesL m rows)[i + 1]? = some k' → e ≤ k'
theorem blk : ∀ (rows : List Seg) (m bb : Int), (∀ s ∈ rows, SegOk s) → (beginsL m rows).length = nBr rows ∧ (brakesL m rows).length = nBr rows ∧
    ∀ i e k, (beginsL m rows)[i]? = some e → (brakesL m rows)[i]? = some k → BlkAt m bb rows i e k
  | [], m, bb, _ => by simp [beginsL, brakesL, nBr]
  | s :: r, m, bb, h => by
    have hs := h s List.mem_cons_self
    have hr : ∀ s ∈ r, SegOk s := fun x hx => h x (List.mem_cons_of_mem _ hx)
    obtain ⟨a1, a2, a3⟩ := blk r (m + s.len) (bb + brN s) hr
    have hl := hs.l1
    have ht := tot_nn hr
    have shift : ∀ e : Int, m + s.len < e → (metresL bb (s :: r))[(e - 1 - m).toNat]? = (metresL (bb + brN s) r)[(e - 1 - (m + s.len)).toNat]? := fun e he => by
      rw [metresL, List.getElem?_append_right (by rw [List.length_replicate]; omega), List.length_replicate]
      congr 1
      omega
    cases hb : isBr s with
    | false =>
      have e1 : beginsL m (s :: r) = beginsL (m + s.len) r := by rw [beginsL, hb]; simp
      have e2 : brakesL m (s :: r) = brakesL (m + s.len) r := by rw [brakesL, hb]; simp
      refine ⟨by rw [e1, nBr_cons, hb]; simpa using a1, by rw [e2, nBr_cons, hb]; simpa using a2, fun i e k q1 q2 => ?_⟩
      rw [e1] at q1
      rw [e2] at q2
      obtain ⟨b1, b2, b3, ⟨mt, b4, b5⟩, b6⟩ := a3 i e k q1 q2
      exact ⟨by omega, b2, by rw [tot_cons]; omega, ⟨mt, by rw [shift e (by omega)]; exact b4, b5⟩, by rw [e2]; exact b6⟩
    | true =>
      have e1 : beginsL m (s :: r) = (m + s.len) :: beginsL (m + s.len) r := by rw [beginsL, hb]; simp
      have e2 : brakesL m (s :: r) = m :: brakesL (m + s.len) r := by rw [brakesL, hb]; simp
      have hk : s.kind = ("brake" : Str) := by simpa [isBr] using hb
      refine ⟨by rw [e1, nBr_cons, hb]; simp; omega, by rw [e2, nBr_cons, hb]; simp; omega, fun i e k q1 q2 => ?_⟩
      rw [e1] at q1
      rw [e2] at q2
      cases i with
      | zero =>
        simp at q1 q2
        subst q1 q2
        refine ⟨Int.le_refl _, by omega, by rw [tot_cons]; omega, ⟨(s.kind, s.slope, bb), ?_, hk⟩, fun k' q => ?_⟩
        · rw [metresL, List.getElem?_append_left (by rw [List.length_replicate]; omega), List.getElem?_replicate]
          rw [if_pos (by omega)]
        · rw [e2] at q
          have q : (brakesL (m + s.len) r)[0]? = some k' := by simpa using q
          cases hq : (beginsL (m + s.len) r)[0]? with
          | none =>
            have := List.getElem?_eq_none_iff.mp hq
            have := (List.getElem?_eq_some_iff.mp q).1
            omega
          | some e' => exact (a3 0 e' k' hq q).k1
      | succ i =>
        have q1 : (beginsL (m + s.len) r)[i]? = some e := by simpa using q1
        have q2 : (brakesL (m + s.len) r)[i]? = some k := by simpa using q2
        obtain ⟨b1, b2, b3, ⟨mt, b4, b5⟩, b6⟩ := a3 i e k q1 q2
        exact ⟨by omega, b2, by rw [tot_cons]; omega, ⟨mt, by rw [shift e (by omega)]; exact b4, b5⟩, fun k' q => b6 k' (by rw [e2] at q; simpa using q)⟩
theorem begins_last : ∀ (rows : List Seg) (m : Int), lastBr rows → ∃ l, beginsL m rows = l ++ [m + tot rows]
  | [], m, ⟨r, b, e, _⟩ => by simp at e
  | s :: r, m, ⟨q, b, e, hb⟩ => by
    cases q with
    | nil =>
      simp at e
      obtain ⟨rfl, rfl⟩ := e
      refine ⟨[], ?_⟩
      have : isBr s = true := by simp [isBr, hb]
      simp [beginsL, this, tot]
    | cons x q =>
      simp at e
      obtain ⟨rfl, rfl⟩ := e
      obtain ⟨l, hl⟩ := begins_last (q ++ [b]) (m + s.len) ⟨q, b, rfl, hb⟩
      exact ⟨(if isBr s then [m + s.len] else []) ++ l, by rw [beginsL, hl, tot_cons, List.append_assoc, Int.add_assoc]⟩
/-- a layout's numbers -/
def nM (rows : List Seg) : Nat := (metresL 0 rows).length
def bg (rows : List Seg) (b : Nat) : Int := (0 :: beginsL 0 rows).getD b 0
def bk (rows : List Seg) (b : Nat) : Int := (brakesL 0 rows).getD b 0
structure Blks (rows : List Seg) : Prop where
  lb : (0 :: beginsL 0 rows).length = nBr rows + 1
  lk : (brakesL 0 rows).length = nBr rows
  le : ∀ b, b < nBr rows → 0 ≤ bg rows b ∧ bg rows b ≤ bk rows b ∧ bk rows b < bg rows (b + 1) ∧ bg rows (b + 1) ≤ nM rows
  br : ∀ b, b < nBr rows → ∃ mt, (metresL 0 rows)[(bg rows (b + 1) - 1).toNat]? = some mt ∧ mt.1 = ("brake" : Str)
  last : bg rows (nBr rows) = nM rows
theorem blks_ok {rows : List Seg} (h : Lay rows) : Blks rows := by
  obtain ⟨a1, a2, a3⟩ := blk rows 0 0 h.ok
  have hm := metres_len 0 h.ok
  have hn : (nM rows : Int) = tot rows := hm
  have getB : ∀ b, b < nBr rows → (beginsL 0 rows)[b]? = some (bg rows (b + 1)) := fun b hb => by
    have : b < (beginsL 0 rows).length := by omega
    simp [bg, List.getD, this]
  have getK : ∀ b, b < nBr rows → (brakesL 0 rows)[b]? = some (bk rows b) := fun b hb => by
    have : b < (brakesL 0 rows).length := by omega
    simp [bk, List.getD, this]
  have at_ : ∀ b, b < nBr rows → BlkAt 0 0 rows b (bg rows (b + 1)) (bk rows b) := fun b hb => a3 b _ _ (getB b hb) (getK b hb)
  have z : bg rows 0 = 0 := by simp [bg]
  refine ⟨by simp [a1], a2, fun b hb => ?_, fun b hb => ?_, ?_⟩
  · obtain ⟨b1, b2, b3, _, _⟩ := at_ b hb
    cases b with
    | zero => rw [z]; exact ⟨Int.le_refl _, b1, b2, by omega⟩
    | succ b =>
      obtain ⟨c1, c2, c3, _, c5⟩ := at_ b (by omega)
      have := c5 _ (getK (b + 1) hb)
      exact ⟨by omega, this, b2, by omega⟩
  · obtain ⟨_, _, _, ⟨mt, b4, b5⟩, _⟩ := at_ b hb
    exact ⟨mt, by simpa using b4, b5⟩
  · obtain ⟨l, hl⟩ := begins_last rows 0 h.l
    have hl2 : l.length + 1 = nBr rows := by rw [← a1, hl]; simp
    rw [hn]
    unfold bg
    rw [hl, ← hl2]
    simp [List.getD]

/-! lists compared item by item -/
def LeL : List Int → List Int → Prop
  | [], [] => True
  | x :: xs, y :: ys => x ≤ y ∧ LeL xs ys
  | _, _ => False
theorem LeL.len : ∀ {xs ys : List Int}, LeL xs ys → xs.length = ys.length
  | [], [], _ => rfl
  | x :: xs, y :: ys, h => by rw [List.length_cons, List.length_cons, h.2.len]
  | [], _ :: _, h => h.elim
  | _ :: _, [], h => h.elim
theorem LeL.append : ∀ {xs ys us vs : List Int}, LeL xs ys → LeL us vs → LeL (xs ++ us) (ys ++ vs)
  | [], [], _, _, _, q => q
  | x :: xs, y :: ys, _, _, h, q => ⟨h.1, LeL.append h.2 q⟩
  | [], _ :: _, _, _, h, _ => h.elim
  | _ :: _, [], _, _, h, _ => h.elim
theorem LeL.rev : ∀ {xs ys : List Int}, LeL xs ys → LeL xs.reverse ys.reverse
  | [], [], _ => trivial
  | x :: xs, y :: ys, h => by rw [List.reverse_cons, List.reverse_cons]; exact LeL.append (LeL.rev h.2) ⟨h.1, trivial⟩
  | [], _ :: _, h => h.elim
  | _ :: _, [], h => h.elim
theorem LeL.get : ∀ {xs ys : List Int} (i : Nat), LeL xs ys → xs.getD i 0 ≤ ys.getD i 0
  | [], [], i, _ => by simp
  | x :: xs, y :: ys, 0, h => by simpa using h.1
  | x :: xs, y :: ys, i + 1, h => by simpa using LeL.get i h.2
  | [], _ :: _, _, h => h.elim
  | _ :: _, [], _, h => h.elim
theorem LeL.gi {xs ys : List Int} (h : LeL xs ys) (i : Int) : gi xs i ≤ gi ys i := h.get _
theorem LeL.map {α : Type} {f g : α → Int} : ∀ {xs : List α}, (∀ x ∈ xs, f x ≤ g x) → LeL (xs.map f) (xs.map g)
  | [], _ => trivial
  | x :: xs, h => ⟨h x List.mem_cons_self, LeL.map fun y hy => h y (List.mem_cons_of_mem _ hy)⟩
theorem LeL.flat {α : Type} {f g : α → List Int} : ∀ {xs : List α}, (∀ x ∈ xs, LeL (f x) (g x)) → LeL (xs.flatMap f) (xs.flatMap g)
  | [], _ => trivial
  | x :: xs, h => by rw [List.flatMap_cons, List.flatMap_cons]; exact (h x List.mem_cons_self).append (LeL.flat fun y hy => h y (List.mem_cons_of_mem _ hy))
theorem flat_range {α : Type} (F : Nat → α) (s c : Nat → Nat) (h0 : s 0 = 0) : ∀ (m : Nat), (∀ b, b < m → s (b + 1) = s b + c b) → (List.range m).flatMap (fun b => (List.range (c b)).map fun j => F (s b + j)) = (List.range (s m)).map F
  | 0, _ => by simp [h0]
  | m + 1, h => by
    rw [List.range_succ, List.flatMap_append, flat_range F s c h0 m fun b hb => h b (by omega), h m (by omega), List.range_add, List.map_append, List.map_map]
    simp [Function.comp_def]
/-! the energies along the track -/
def atM (ms : List Mt) (p : Int) : Mt := (atI ms (p % ms.length)).getD (("" : Str), 0, 0)
def itE (ms : List Mt) (t : Tr) (f : Int) (p e : Int) : Nat → Int
  | 0 => e
  | j + 1 => aft (atM ms (p + j)) t (itE ms t f p e j) f none
theorem itE_shift (ms : List Mt) (t : Tr) (f p e : Int) : ∀ j : Nat, itE ms t f (p + 1) (aft (atM ms p) t e f none) j = itE ms t f p e (j + 1)
  | 0 => by simp [itE]
  | j + 1 => by
    rw [itE, itE_shift ms t f p e j, itE]
    congr 2
    push_cast
    omega
theorem rollL_it (ms : List Mt) (hm : 0 < ms.length) (t : Tr) (f : Int) : ∀ (k : Nat) (p e : Int), rollL ms t p e (List.replicate k (f, none)) = (List.range k).map fun j => itE ms t f p e (j + 1)
  | 0, _, _ => rfl
  | k + 1, p, e => by
    obtain ⟨_, _, m, hmm⟩ := pos_ok ms hm p
    have ha : atM ms p = m := by simp [atM, hmm]
    rw [List.replicate_succ, rollL_cons _ _ _ _ _ _ _ m hmm, rollL_it ms hm t f k, List.range_succ_eq_map, List.map_cons, List.map_map, ← ha]
    congr 1
    · simp [itE]
    · refine List.map_congr_left fun j _ => ?_
      exact itE_shift ms t f p e (j + 1)
theorem roll_drop (ms : List Mt) (hm : 0 < ms.length) (t : Tr) (f : Int) (k : Nat) (hk : 0 < k) (p e : Int) : e :: (rollL ms t p e (List.replicate k (f, none))).dropLast = (List.range k).map fun j => itE ms t f p e j := by
  obtain ⟨k, rfl⟩ : ∃ n, k = n + 1 := ⟨k - 1, by omega⟩
  rw [rollL_it ms hm, List.range_succ, List.map_append, List.map_cons, List.map_nil, List.dropLast_concat, ← List.range_succ, List.range_succ_eq_map, List.map_cons, List.map_map]
  rfl
theorem aft_mono {m : Mt} {t t' : Tr} {e e' f f' : Int} (he : 0 ≤ e) (h1 : e ≤ e') (h2 : f' ≤ f) (hl : t.lift = t'.lift) (hd : t.drive = t'.drive) : aft m t e f none ≤ aft m t' e' f' none := by
  unfold aft mx
  rw [hl, hd]
  simp only []
  (repeat' split) <;> omega
theorem aft_br {m : Mt} {t : Tr} {e f : Int} (h : m.1 = ("brake" : Str)) : t.drive ≤ aft m t e f none := by
  have : ¬ (m.1 = ("lift" : Str)) := by rw [h]; simp
  unfold aft
  rw [if_neg this, if_pos h]
  exact mx_l _ _
theorem itE_nn {ms : List Mt} {t : Tr} (ht : TrOk t) {f p e : Int} (he : 0 ≤ e) : ∀ j, 0 ≤ itE ms t f p e j
  | 0 => he
  | j + 1 => aft_nn ht
theorem itE_mono {ms : List Mt} {t t' : Tr} (ht : TrOk t) {f f' p e e' : Int} (he : 0 ≤ e) (h1 : e ≤ e') (h2 : f' ≤ f) (hl : t.lift = t'.lift) (hd : t.drive = t'.drive) : ∀ j, itE ms t f p e j ≤ itE ms t' f' p e' j
  | 0 => h1
  | j + 1 => aft_mono (itE_nn ht he j) (itE_mono ht he h1 h2 hl hd j) h2 hl hd
/-! the lists of the program -/
def cnt (rows : List Seg) (b : Nat) : Nat := (bg rows (b + 1) - bg rows b).toNat
def firstE (rows : List Seg) (t : Tr) : Int := itE (metresL 0 rows) t t.f0 0 t.drive (nM rows)
def grF (rows : List Seg) (t : Tr) : Nat → Int := itE (metresL 0 rows) t t.f0 0 (firstE rows t)
def grL (rows : List Seg) (t : Tr) : List Int := (List.range (nM rows)).map (grF rows t)
def leB (rows : List Seg) (t : Tr) (b : Nat) : List Int := (List.range (cnt rows b)).map (itE (metresL 0 rows) t t.f1 (bg rows b) t.drive)
def leL (rows : List Seg) (t : Tr) : List Int := (List.range (nBr rows)).flatMap (leB rows t)

theorem blocks_ok {rows : List Seg} (B : Blks rows) : m_Layout_blocks [layP rows] = .ok (.int (nBr rows : Nat)) := by
  have := B.lk
  simp [m_Layout_blocks, runP_ap, envOf_ap, this]
theorem chkb_ok {rows : List Seg} (B : Blks rows) (b : Nat) (hb : b < nBr rows) : m_Layout_check_block [layP rows, .int b] = .ok .non := by
  have := B.lk
  simp (disch := omega) [m_Layout_check_block, runP_ap, envOf_ap, this, hb]
def bgs (rows : List Seg) : List Int := 0 :: beginsL 0 rows
theorem bgs_len {rows : List Seg} (B : Blks rows) : (bgs rows).length = nBr rows + 1 := B.lb
theorem bgs_at {rows : List Seg} (B : Blks rows) (b : Nat) (hb : b ≤ nBr rows) : atI (bgs rows) (b : Int) = some (bg rows b) := atI_gi (by omega) (by rw [bgs_len B]; omega)
theorem lay_bgs (rows : List Seg) (S : Store) : fldOf "Layout" "begins" S (.val (layP rows)) = some (.val (.lst ((bgs rows).map .int))) := lay_begins rows S
theorem begin_ok {rows : List Seg} (B : Blks rows) (b : Nat) (hb : b < nBr rows) : m_Layout_begin [layP rows, .int b] = .ok (.int (bg rows b)) := by
  have c := chkb_ok B b hb
  have e := bgs_at B b (by omega)
  unfold m_Layout_begin
  simp [runP_ap, envOf_ap, c, NSL, -lay_begins, lay_bgs, e]
theorem end_ok {rows : List Seg} (B : Blks rows) (b : Nat) (hb : b < nBr rows) : m_Layout_end [layP rows, .int b] = .ok (.int (bg rows (b + 1))) := by
  have c := chkb_ok B b hb
  have e : atI (bgs rows) ((b : Int) + 1) = some (bg rows (b + 1)) := by
    have := bgs_at B (b + 1) (by omega)
    exact_mod_cast this
  unfold m_Layout_end
  simp [runP_ap, envOf_ap, c, NSL, -lay_begins, lay_bgs, e]
theorem brake_ok {rows : List Seg} (B : Blks rows) (b : Nat) (hb : b < nBr rows) : m_Layout_brake [layP rows, .int b] = .ok (.int (bk rows b)) := by
  have c := chkb_ok B b hb
  have e : atI (brakesL 0 rows) (b : Int) = some (bk rows b) := atI_gi (by omega) (by rw [B.lk]; omega)
  unfold m_Layout_brake
  simp [runP_ap, envOf_ap, c, NSL, -lay_begins, lay_bgs, e]
theorem rp_map (f : Int) (n : Nat) : (List.replicate n (f, (none : Option Int))).map (fun q => P.int q.1) = List.replicate n (.int f) := by simp
theorem rp_map2 (f : Int) (n : Nat) : (List.replicate n (f, (none : Option Int))).map (fun q => stP q.2) = List.replicate n .non := by simp [stP]
theorem nM_pos {rows : List Seg} (B : Blks rows) (L : Lay rows) : 0 < nM rows := by
  have := B.le 0 (by have := L.n1; omega)
  omega
theorem nM_le {rows : List Seg} (L : Lay rows) : nM rows ≤ 4000 := by
  have := metres_len 0 L.ok; have := L.t; unfold nM; omega
theorem it_ok {rows : List Seg} (B : Blks rows) (L : Lay rows) {t : Tr} (ht : TrOk t) (f p e : Int) (k : Nat) (he : 0 ≤ e) (h0 : 0 ≤ p) (h1 : p < nM rows) (hk : k ≤ 4000) :
    m_roll [layP rows, trP t, .int p, .int e, .lst (List.replicate k (.int f)), .lst (List.replicate k .non)] = .ok (.lst (((List.range k).map fun j => itE (metresL 0 rows) t f p e (j + 1)).map .int)) := by
  have r := roll_ok rows (nM_pos B L) t ht p e he h0 h1 (List.replicate k (f, none)) (by simp; omega)
  rw [rp_map, rp_map2, rollL_it _ (nM_pos B L)] at r
  exact r
theorem drop_range (g : Nat → Int) (k : Nat) (hk : 0 < k) : g 0 :: ((List.range k).map fun j => g (j + 1)).dropLast = (List.range k).map g := by
  obtain ⟨k, rfl⟩ : ∃ n, k = n + 1 := ⟨k - 1, by omega⟩
  rw [List.range_succ, List.map_append, List.map_cons, List.map_nil, List.dropLast_concat, ← List.range_succ, List.range_succ_eq_map, List.map_cons, List.map_map]
  rfl
theorem last_range (g : Nat → Int) (k : Nat) (hk : 0 < k) : atI ((List.range k).map fun j => g (j + 1)) (-1) = some (g k) := by
  obtain ⟨k, rfl⟩ : ∃ n, k = n + 1 := ⟨k - 1, by omega⟩
  rw [List.range_succ, List.map_append, List.map_cons, List.map_nil, atI_snoc]
theorem great_ok {rows : List Seg} (B : Blks rows) (L : Lay rows) {t : Tr} (ht : TrOk t) : m_greatest_energies [layP rows, trP t] = .ok (.lst ((grL rows t).map .int)) := by
  have hp := nM_pos B L
  have hle := nM_le L
  have hd := ht.a11
  have h1 : (metresL 0 rows).length = nM rows := rfl
  have r1 := it_ok B L ht t.f0 0 t.drive (nM rows) (by omega) (by omega) (by omega) hle
  have hfe : itE (metresL 0 rows) t t.f0 0 t.drive (nM rows) = firstE rows t := rfl
  have hf0 : 0 ≤ firstE rows t := itE_nn ht (by omega) _
  have r2 := it_ok B L ht t.f0 0 (firstE rows t) (nM rows) hf0 (by omega) (by omega) hle
  have l1 := last_range (itE (metresL 0 rows) t t.f0 0 t.drive) (nM rows) hp
  have d2 : firstE rows t :: _ = _ := drop_range (itE (metresL 0 rows) t t.f0 0 (firstE rows t)) (nM rows) hp
  have hl2 : ((List.range (nM rows)).map fun j => itE (metresL 0 rows) t t.f0 0 (firstE rows t) (j + 1)).length = nM rows := by simp
  have tot := total_ok rows
  generalize ((List.range (nM rows)).map fun j => itE (metresL 0 rows) t t.f0 0 t.drive (j + 1)) = xs1 at r1 l1
  generalize ((List.range (nM rows)).map fun j => itE (metresL 0 rows) t t.f0 0 (firstE rows t) (j + 1)) = xs2 at r2 d2 hl2
  have hA : (nM rows : Int) < 100000 := by omega
  have hB : -100000 < (nM rows : Int) := by omega
  have hC : nM rows ≤ 100000 := by omega
  have hD : 1 + (nM rows - 1) ≤ 100000 := by omega
  unfold m_greatest_energies
  simp (disch := omega) [runP_ap, envOf_ap, NSL, tot, h1, rep_flat, r1, r2, l1, hfe, hA, hB, hC, hD, hl2, cut_dropLast]
  unfold grL grF
  rw [← d2]
  simp
/-- the rounds of least_energies -/
def JLe (rows : List Seg) (t : Tr) (k : Nat) (ρ : Z.Env) (S : Store) : Prop := ∃ (o3 o4 o5 : Option W), ρ = [some (.val (layP rows)), some (.val (trP t)), some (.loc 0), o3, o4, o5] ∧
  S = [.lst (((List.range k).flatMap (leB rows t)).map fun i => .val (.int i))]
theorem bg_mono {rows : List Seg} (B : Blks rows) : ∀ a b : Nat, a ≤ b → b ≤ nBr rows → bg rows a ≤ bg rows b := fun a b h => by
  induction b with
  | zero => intro _; have : a = 0 := by omega
            subst this; exact Int.le_refl _
  | succ b ih =>
    intro hb
    by_cases e : a = b + 1
    · subst e; exact Int.le_refl _
    · have := ih (by omega) (by omega)
      have := B.le b (by omega)
      omega
theorem leB_len {rows : List Seg} (B : Blks rows) (t : Tr) : ∀ k, k ≤ nBr rows → (((List.range k).flatMap (leB rows t)).length : Int) = bg rows k
  | 0, _ => by simp [bg]
  | k + 1, h => by
    have i := leB_len B t k (by omega)
    have := B.le k (by omega)
    rw [List.range_succ, List.flatMap_append, List.length_append]
    push_cast
    rw [i]
    simp [leB, cnt]
    omega
theorem least_ok {rows : List Seg} (B : Blks rows) (L : Lay rows) {t : Tr} (ht : TrOk t) : m_least_energies [layP rows, trP t] = .ok (.lst ((leL rows t).map .int)) := by
  have hd := ht.a11
  have hle := nM_le L
  have hn2 := L.n2
  obtain ⟨_, _, eL, o3, o4, o5, rfl, rfl⟩ := for_rng (JLe rows t) (t := .nm 3) (body := m_least_energies_b1) (lo := 0) (n := nBr rows) (by
    rintro k _ _ hk ⟨o3, o4, o5, rfl, rfl⟩
    have b1 := begin_ok B k hk
    have b2 := end_ok B k hk
    have hb := B.le k hk
    have hc : bg rows (k + 1) - bg rows k = (cnt rows k : Nat) := by unfold cnt; omega
    have hc2 : cnt rows k ≤ 4000 := by unfold cnt; omega
    have hc3 : 0 < cnt rows k := by unfold cnt; omega
    have ll := leB_len B t k (by omega)
    have r := it_ok B L ht t.f1 (bg rows k) t.drive (cnt rows k) (by omega) (by omega) (by omega) hc2
    have d : t.drive :: _ = _ := drop_range (itE (metresL 0 rows) t t.f1 (bg rows k) t.drive) (cnt rows k) hc3
    have hl2 : ((List.range (cnt rows k)).map fun j => itE (metresL 0 rows) t t.f1 (bg rows k) t.drive (j + 1)).length = cnt rows k := by simp
    generalize ((List.range (cnt rows k)).map fun j => itE (metresL 0 rows) t t.f1 (bg rows k) t.drive (j + 1)) = xs2 at r d hl2
    have hA : (cnt rows k : Int) < 100000 := by omega
    have hB : -100000 < (cnt rows k : Int) := by omega
    have hC : cnt rows k ≤ 100000 := by omega
    have hE : ((List.range k).flatMap (leB rows t)).length < 100000 := by omega
    have hF : ((List.range k).flatMap (leB rows t)).length + 1 + (cnt rows k - 1) ≤ 100000 := by omega
    have e : (List.range (k + 1)).flatMap (leB rows t) = (List.range k).flatMap (leB rows t) ++ (t.drive :: xs2.dropLast) := by
      rw [List.range_succ, List.flatMap_append, d]; simp [leB]
    unfold JLe
    rw [e]
    generalize (List.range k).flatMap (leB rows t) = acc at *
    simp (disch := omega) [m_least_energies_b1, NSL, b1, b2, hc, rep_flat, r, hA, hB, hC, hE, hF, hl2, cut_dropLast]
    rfl) (ρ := [some (.val (layP rows)), some (.val (trP t)), some (.loc 0), none, none, none]) (S := [.lst []]) ⟨_, _, _, rfl, rfl⟩
  have bl := blocks_ok B
  have ert : rngOk 0 (nBr rows : Int) = true := rngOk_of (by omega) (by omega) (by omega) (by omega)
  simp [m_least_energies, runP_ap, envOf_ap, NSL, bl, ert, eL]
  rfl

/-! envelopes -/
def enb (m : Mt) (t : Tr) (fo : Int) : Int :=
  if m.1 = ("lift" : Str) then (if t.lift ≤ fo then (if 0 ≤ fo + (1962 * m.2.1 + t.f0) then fo + (1962 * m.2.1 + t.f0) else -1) else -1)
  else if m.1 = ("brake" : Str) then mx 0 (mx 0 fo + (1962 * m.2.1 + t.f0 + t.b0))
  else mx 0 (mx 0 fo + (1962 * m.2.1 + t.f0))
theorem enb_ok (rows : List Seg) (t : Tr) (m : Int) (mt : Mt) (fo : Int) (h0 : 0 ≤ m) (h1 : m < (metresL 0 rows).length) (hm : atI (metresL 0 rows) m = some mt) : m_envelope_before [layP rows, trP t, .int m, .int fo] = .ok (.int (enb mt t fo)) := by
  have a := metre_ok rows m mt h0 h1 hm
  obtain ⟨k, sl, b⟩ := mt
  unfold enb
  by_cases c1 : k = ("lift" : Str)
  · by_cases c2 : t.lift ≤ fo
    · by_cases c3 : 0 ≤ fo + (1962 * sl + t.f0) <;> simp (disch := omega) [m_envelope_before, runP_ap, envOf_ap, NSL, metP, a, c1, c2, c3, mulOk_d, mx]
    · simp (disch := omega) [m_envelope_before, runP_ap, envOf_ap, NSL, metP, a, c1, c2, mulOk_d, mx]
  · by_cases c2 : k = ("brake" : Str) <;> simp (disch := omega) [m_envelope_before, runP_ap, envOf_ap, NSL, metP, a, c1, c2, mulOk_d, mx]
theorem mx_mono {a b c : Int} (h : b ≤ c) : mx a b ≤ mx a c := by unfold mx; split <;> split <;> omega
theorem enb_mono {m : Mt} {t t' : Tr} {f f' : Int} (hf : f ≤ f') (h1 : t.f0 ≤ t'.f0) (h2 : t.b0 ≤ t'.b0) (hl : t.lift = t'.lift) : enb m t f ≤ enb m t' f' := by
  unfold enb
  rw [hl]
  split
  · (repeat' split) <;> omega
  · have := mx_mono (a := 0) hf
    split <;> exact mx_mono (by omega)
def evS (ms : List Mt) (t : Tr) (top : Int) : Nat → Int
  | 0 => 0
  | j + 1 => enb (atM ms (top - 1 - j)) t (evS ms t top j)
theorem evS_mono {ms : List Mt} {t t' : Tr} {top : Int} (h1 : t.f0 ≤ t'.f0) (h2 : t.b0 ≤ t'.b0) (hl : t.lift = t'.lift) : ∀ j, evS ms t top j ≤ evS ms t' top j
  | 0 => Int.le_refl _
  | j + 1 => enb_mono (evS_mono h1 h2 hl j) h1 h2 hl
def enB (rows : List Seg) (t : Tr) (b : Nat) : List Int := (List.range (cnt rows b)).map fun j => evS (metresL 0 rows) t (bg rows (b + 1)) (j + 1)
def enL (rows : List Seg) (t : Tr) : List Int := (List.range (nBr rows)).flatMap fun b => (enB rows t b).reverse
theorem enL_mono {rows : List Seg} {t t' : Tr} (h1 : t.f0 ≤ t'.f0) (h2 : t.b0 ≤ t'.b0) (hl : t.lift = t'.lift) : LeL (enL rows t) (enL rows t') :=
  LeL.flat fun _ _ => (LeL.map fun _ _ => evS_mono h1 h2 hl _).rev
theorem enL_len {rows : List Seg} (B : Blks rows) (t : Tr) : ∀ k, k ≤ nBr rows → (((List.range k).flatMap fun b => (enB rows t b).reverse).length : Int) = bg rows k
  | 0, _ => by simp [bg]
  | k + 1, h => by
    have i := enL_len B t k (by omega)
    have := B.le k (by omega)
    rw [List.range_succ, List.flatMap_append, List.length_append]
    push_cast
    rw [i]
    simp [enB, cnt]
    omega
theorem get_top (T : Store) (c : Cell) : (T ++ [c])[T.length]? = some c := by simp
theorem set_top (T : Store) (c d : Cell) : (T ++ [c]).set T.length d = T ++ [d] := by simp
def JEb (rows : List Seg) (t : Tr) (T : Store) (b : Nat) (k : Nat) (ρ : Z.Env) (S : Store) : Prop := ∃ (o6 : Option W), ρ = [some (.val (layP rows)), some (.val (trP t)), some (.loc 0), some (.val (.int b)), some (.loc T.length), some (.val (.int (evS (metresL 0 rows) t (bg rows (b + 1)) k))), o6] ∧
  S = T ++ [.lst ((List.range k).map fun j => .val (.int (evS (metresL 0 rows) t (bg rows (b + 1)) (j + 1))))]
theorem envb_ok {rows : List Seg} (B : Blks rows) (L : Lay rows) (t : Tr) (T : Store) (b : Nat) (hb : b < nBr rows) (o6 : Option W) : ∃ o6', forGo (.nm 6) m_envelope_b1 (rngD (bg rows (b + 1) - 1) (cnt rows b)) [some (.val (layP rows)), some (.val (trP t)), some (.loc 0), some (.val (.int b)), some (.loc T.length), some (.val (.int 0)), o6] (T ++ [.lst []]) =
    .nx [some (.val (layP rows)), some (.val (trP t)), some (.loc 0), some (.val (.int b)), some (.loc T.length), some (.val (.int (evS (metresL 0 rows) t (bg rows (b + 1)) (cnt rows b)))), o6'] (T ++ [.lst ((enB rows t b).map fun i => .val (.int i))]) := by
  have hb' := B.le b hb
  have hcc : (cnt rows b : Int) = bg rows (b + 1) - bg rows b := by unfold cnt; omega
  have hle := nM_le L
  obtain ⟨_, _, e, o6', rfl, rfl⟩ := for_idx (fun k : Nat => P.int (bg rows (b + 1) - 1 + (k : Nat) * (-1))) (JEb rows t T b) (t := .nm 6) (body := m_envelope_b1) (n := cnt rows b) (by
    rintro k _ _ hk ⟨o6, rfl, rfl⟩
    have hm : 0 ≤ bg rows (b + 1) - 1 + (k : Nat) * (-1) := by omega
    have hm2 : bg rows (b + 1) - 1 + (k : Nat) * (-1) < nM rows := by omega
    obtain ⟨p0, p1, m, p2⟩ := pos_ok (metresL 0 rows) (nM_pos B L) (bg rows (b + 1) - 1 - k)
    have ha : atM (metresL 0 rows) (bg rows (b + 1) - 1 - k) = m := by simp [atM, p2]
    have hx : bg rows (b + 1) - 1 + (k : Nat) * (-1) = bg rows (b + 1) - 1 - k := by omega
    rw [hx] at hm hm2 ⊢
    rw [show (bg rows (b + 1) - 1 - k) % ((metresL 0 rows).length : Int) = bg rows (b + 1) - 1 - k from Int.emod_eq_of_lt hm hm2] at p2
    have q := enb_ok rows t _ m (evS (metresL 0 rows) t (bg rows (b + 1)) k) hm hm2 p2
    have hk2 : k < 100000 := by omega
    simp (disch := omega) [m_envelope_b1, q, hk2, get_top, set_top]
    rw [← ha]
    exact ⟨_, rfl, by rw [List.range_succ, List.map_append]; rfl⟩) (ρ := [some (.val (layP rows)), some (.val (trP t)), some (.loc 0), some (.val (.int b)), some (.loc T.length), some (.val (.int 0)), o6]) (S := T ++ [.lst []]) ⟨_, rfl, rfl⟩
  refine ⟨o6', ?_⟩
  rw [rngD, e, enB, List.map_map]
  rfl
def JEn (rows : List Seg) (t : Tr) (k : Nat) (ρ : Z.Env) (S : Store) : Prop := ∃ (o3 o4 o5 o6 : Option W) (S' : Store), ρ = [some (.val (layP rows)), some (.val (trP t)), some (.loc 0), o3, o4, o5, o6] ∧
  S = .lst (((List.range k).flatMap fun b => (enB rows t b).reverse).map fun i => .val (.int i)) :: S'
theorem env_ok {rows : List Seg} (B : Blks rows) (L : Lay rows) (t : Tr) : m_envelope [layP rows, trP t] = .ok (.lst ((enL rows t).map .int)) := by
  have hle := nM_le L
  have hn2 := L.n2
  obtain ⟨_, _, eL, o3, o4, o5, o6, S', rfl, rfl⟩ := for_rng (JEn rows t) (t := .nm 3) (body := m_envelope_b2) (lo := 0) (n := nBr rows) (by
    rintro k _ _ hk ⟨o3, o4, o5, o6, S', rfl, rfl⟩
    have b1 := begin_ok B k hk
    have b2 := end_ok B k hk
    have hb := B.le k hk
    have hcc : (cnt rows k : Int) = bg rows (k + 1) - bg rows k := by unfold cnt; omega
    have hc2 : cnt rows k ≤ 4000 := by omega
    have ll := enL_len B t k (by omega)
    have hbl : (enB rows t k).length = cnt rows k := by simp [enB]
    obtain ⟨o6', e⟩ := envb_ok B L t (.lst (((List.range k).flatMap fun b => (enB rows t b).reverse).map fun i => .val (.int i)) :: S') k hk o6
    have hE : ((List.range k).flatMap fun b => (enB rows t b).reverse).length + cnt rows k ≤ 100000 := by omega
    have e2 : ((List.range (k + 1)).flatMap fun b => (enB rows t b).reverse) = ((List.range k).flatMap fun b => (enB rows t b).reverse) ++ (enB rows t k).reverse := by
      rw [List.range_succ, List.flatMap_append]; simp
    have ert : rngOk (bg rows (k + 1) - 1) (bg rows k - 1) = true := rngOk_of (by omega) (by omega) (by omega) (by omega)
    have ecn : ((bg rows (k + 1) - 1) - (bg rows k - 1)).toNat = cnt rows k := by omega
    unfold JEn
    rw [e2]
    generalize ((List.range k).flatMap fun b => (enB rows t b).reverse) = acc at *
    generalize enB rows t k = xs at *
    simp only [List.length_cons, List.cons_append, List.length_map] at e
    simp (disch := omega) [m_envelope_b2, NSL, b1, b2, ert, ecn, e, revW]
    rw [show (S' ++ [Cell.lst (List.map (fun i => W.val (P.int i)) xs)])[List.length S']? = some (Cell.lst (List.map (fun i => W.val (P.int i)) xs)) from get_top _ _]
    have fz : ∀ S, doFrzs (List.map (fun i => W.val (P.int i)) xs) S = .ok (xs.map .int) S := fun S => by rw [← doFrzs_vals (xs.map .int) S, List.map_map]; rfl
    simp [fz, hbl, hE]) (ρ := [some (.val (layP rows)), some (.val (trP t)), some (.loc 0), none, none, none, none]) (S := [.lst []]) ⟨_, _, _, _, _, rfl, rfl⟩
  have bl := blocks_ok B
  have ert : rngOk 0 (nBr rows : Int) = true := rngOk_of (by omega) (by omega) (by omega) (by omega)
  simp [m_envelope, runP_ap, envOf_ap, NSL, bl, ert, eL]
  rfl

/-! roots -/
def IsRt (n r : Int) : Prop := 0 ≤ r ∧ r * r ≤ n ∧ n < (r + 1) * (r + 1)
theorem sq_lt {a b : Int} (ha : 0 ≤ a) (hb : 0 ≤ b) (h : a * a < b * b) : a < b := by
  rcases Int.lt_or_le a b with q | q
  · exact q
  · have := Int.mul_le_mul q q hb ha; omega
theorem sq_le {a b : Int} (ha : 0 ≤ a) (h : a ≤ b) : a * a ≤ b * b := Int.mul_le_mul h h ha (by omega)
theorem IsRt.mono {n n' r r' : Int} (h : IsRt n r) (h' : IsRt n' r') (hn : n ≤ n') : r ≤ r' := by
  have := sq_lt (a := r) (b := r' + 1) h.1 (by have := h'.1; omega) (by have := h.2.1; have := h'.2.2; omega)
  omega
theorem IsRt.uniq {n r r' : Int} (h : IsRt n r) (h' : IsRt n r') : r = r' := by
  have := h.mono h' (Int.le_refl _); have := h'.mono h (Int.le_refl _); omega
theorem root_loop (n : Int) (hn : n < 1000000000000000000) : ∀ (k : Nat) (lo hi : Int) (o : Option W), 0 ≤ lo → lo < hi → hi ≤ 4294967296 → hi - lo ≤ k → lo * lo ≤ n → n < hi * hi →
    ∃ r hi' o', IsRt n r ∧ whileGo (tstB (eBin gtW (eBin subW (eVar 2) (eVar 1)) (eCst (.int 1)))) m_root_down_b1 (k + 1) [some (.val (.int n)), some (.val (.int lo)), some (.val (.int hi)), o] [] = some (.nx [some (.val (.int n)), some (.val (.int r)), some (.val (.int hi')), o'] [])
  | 0, lo, hi, o, h0, h1, h2, h3, h4, h5 => by omega
  | k + 1, lo, hi, o, h0, h1, h2, h3, h4, h5 => by
    by_cases c : 1 < hi - lo
    · by_cases d : (lo + hi) / 2 * ((lo + hi) / 2) ≤ n
      · obtain ⟨r, hi', o', q1, q2⟩ := root_loop n hn k ((lo + hi) / 2) hi (some (.val (.int ((lo + hi) / 2)))) (by omega) (by omega) h2 (by omega) d h5
        refine ⟨r, hi', o', q1, ?_⟩
        rw [← q2]
        conv => lhs; unfold whileGo
        simp (disch := omega) [c, m_root_down_b1, mulOk_c, d]
      · obtain ⟨r, hi', o', q1, q2⟩ := root_loop n hn k lo ((lo + hi) / 2) (some (.val (.int ((lo + hi) / 2)))) (by omega) (by omega) (by omega) (by omega) h4 (by omega)
        refine ⟨r, hi', o', q1, ?_⟩
        rw [← q2]
        conv => lhs; unfold whileGo
        simp (disch := omega) [c, m_root_down_b1, mulOk_c, d]
    · have e : hi = lo + 1 := by omega
      subst e
      refine ⟨lo, lo + 1, o, ⟨h0, h4, h5⟩, ?_⟩
      unfold whileGo
      simp [c]
theorem root_ok (n : Int) (h0 : 0 ≤ n) (hn : n < 1000000000000000000) : ∃ r, IsRt n r ∧ m_root_down [.int n] = .ok (.int r) := by
  have hb : Builtin.Int.intBits n ≤ 60 := intBits_le_iff.mpr (by omega)
  have hk : n.natAbs < 2 ^ Builtin.Int.intBits n := intBits_le_iff.mp (Nat.le_refl _)
  obtain ⟨b, eb⟩ : ∃ b, b = Builtin.Int.intBits n := ⟨_, rfl⟩
  rw [← eb] at hb hk
  have p1 : (2 : Nat) ^ (b / 2 + 1) ≤ 2 ^ 31 := Nat.pow_le_pow_right (by omega) (by omega)
  have p2 : (2 : Nat) ^ b ≤ 2 ^ (b / 2 + 1) * 2 ^ (b / 2 + 1) := by
    rw [← Nat.pow_add]
    exact Nat.pow_le_pow_right (by omega) (by omega)
  have p3 : 0 < (2 : Nat) ^ (b / 2 + 1) := Nat.two_pow_pos _
  obtain ⟨hi, ehi⟩ : ∃ hi : Nat, hi = 2 ^ (b / 2 + 1) := ⟨_, rfl⟩
  rw [← ehi] at p1 p2 p3
  have p4 : n < (hi : Int) * hi := by
    have : n.natAbs < hi * hi := by omega
    have e : ((hi * hi : Nat) : Int) = (hi : Int) * hi := by push_cast; rfl
    omega
  obtain ⟨r, hi', o', q1, q2⟩ := root_loop n hn hi 0 hi none (by omega) (by omega) (by omega) (by omega) (by omega) p4
  refine ⟨r, q1, ?_⟩
  have q3 := sWhile_eq q2
  have hnn : ¬ n < 0 := by omega
  have es : (1 : Int) * 2 ^ (((b : Nat) : Int) / 2 + 1).toNat = hi := by
    rw [ehi, show (((b : Nat) : Int) / 2 + 1).toNat = b / 2 + 1 by omega]
    push_cast
    omega
  rw [Int.one_mul] at es
  unfold m_root_down
  have g1 : 0 ≤ (b : Int) / 2 + 1 := by omega
  have g2 : (b : Int) / 2 + 1 ≤ 1000000 := by omega
  simp (disch := omega) [runP_ap, envOf_ap, hnn, ← eb, es, g1, g2, q3]
noncomputable def rt (n : Int) : Int := open Classical in if h : ∃ r, IsRt n r then h.choose else 0
theorem rt_is {n r : Int} (h : IsRt n r) : rt n = r := by
  have ex : ∃ r, IsRt n r := ⟨r, h⟩
  unfold rt
  rw [dif_pos ex]
  exact ex.choose_spec.uniq h
theorem rt_ok (n : Int) (h0 : 0 ≤ n) (hn : n < 1000000000000000000) : IsRt n (rt n) ∧ m_root_down [.int n] = .ok (.int (rt n)) := by
  obtain ⟨r, h1, h2⟩ := root_ok n h0 hn
  rw [rt_is h1]
  exact ⟨h1, h2⟩
noncomputable def ru (n : Int) : Int := if rt n * rt n = n then rt n else rt n + 1
theorem ru_ok (n : Int) (h0 : 0 ≤ n) (hn : n < 1000000000000000000) : m_root_up [.int n] = .ok (.int (ru n)) := by
  obtain ⟨⟨a, b, c⟩, e⟩ := rt_ok n h0 hn
  have hb : rt n < 1000000000 := sq_lt a (by omega) (by omega)
  unfold ru
  by_cases h : rt n * rt n = n <;> simp (disch := omega) [m_root_up, runP_ap, envOf_ap, e, mulOk_c, h]
theorem ru_mono {n n' : Int} (h0 : 0 ≤ n) (h : n ≤ n') (hn : n' < 1000000000000000000) : ru n ≤ ru n' := by
  obtain ⟨r1, _⟩ := rt_ok n h0 (by omega)
  obtain ⟨r2, _⟩ := rt_ok n' (by omega) hn
  have m := r1.mono r2 h
  unfold ru
  split
  · split <;> omega
  · rename_i c
    split
    · rename_i d
      rcases Int.lt_or_le (rt n) (rt n') with q | q
      · omega
      · have : rt n = rt n' := by omega
        rw [this] at c
        have := r1.2.1
        have e : rt n = rt n' := by omega
        rw [e] at this
        omega
    · omega
theorem rt_mono {n n' : Int} (h0 : 0 ≤ n) (h : n ≤ n') (hn : n' < 1000000000000000000) : rt n ≤ rt n' :=
  (rt_ok n h0 (by omega)).1.mono (rt_ok n' (by omega) hn).1 h
theorem rt_pos {n : Int} (h0 : 1 ≤ n) (hn : n < 1000000000000000000) : 1 ≤ rt n := by
  obtain ⟨⟨a, b, c⟩, _⟩ := rt_ok n (by omega) hn
  rcases Int.lt_or_le (rt n) 1 with q | q
  · have : rt n = 0 := by omega
    rw [this] at c; omega
  · exact q
theorem rt_lt {n : Int} (h0 : 0 ≤ n) (hn : n < 1000000000000000000) : rt n < 1000000000 := by
  obtain ⟨⟨a, b, c⟩, _⟩ := rt_ok n h0 hn
  exact sq_lt a (by omega) (by omega)
theorem ru_pos {n : Int} (h0 : 1 ≤ n) (hn : n < 1000000000000000000) : 1 ≤ ru n ∧ ru n ≤ 1000000000 := by
  have := rt_pos h0 hn
  have := rt_lt (by omega) hn
  unfold ru; split <;> omega
/-! times -/
noncomputable def tmA (hi : Int) : Int := 100000000 / ru hi
noncomputable def tmB (lo : Int) : Int := -(-100000000 / rt lo)
theorem mt_ok (lo hi : Int) (h1 : 1 ≤ lo) (h2 : lo ≤ hi) (h3 : hi < 1000000000000000000) : m_metre_times [.int lo, .int hi] = .ok (.tup [.int (tmA hi), .int (tmB lo)]) := by
  obtain ⟨u1, u2⟩ := ru_pos (n := hi) (by omega) h3
  have r1 := rt_pos (n := lo) h1 (by omega)
  have r2 := rt_lt (n := lo) (by omega) (by omega)
  have e1 := ru_ok hi (by omega) h3
  have e2 := (rt_ok lo (by omega) (by omega)).2
  have cd : ∀ x : Int, 1 ≤ x → m_check_divisor [.int x] = .ok .non := fun x hx => by
    have : ¬ x < 1 := by omega
    simp [m_check_divisor, runP_ap, envOf_ap, this]
  have dd : ∀ y x : Int, 1 ≤ x → x ≤ 1000000000 → m_divided_down [.int y, .int x] = .ok (.int (y / x)) := fun y x hx hx2 => by
    have p1 : 0 < x := by omega
    have p2 : x < 18446744073709551616 := by omega
    simp [m_divided_down, runP_ap, envOf_ap, cd x hx, p1, p2]
  have du : ∀ y x : Int, 1 ≤ x → x ≤ 1000000000 → m_divided_up [.int y, .int x] = .ok (.int (-(-y / x))) := fun y x hx hx2 => by
    have p1 : 0 < x := by omega
    have p2 : x < 18446744073709551616 := by omega
    simp [m_divided_up, runP_ap, envOf_ap, cd x hx, p1, p2]
  have d1 := dd 100000000 (ru hi) u1 u2
  have d2 := du 100000000 (rt lo) r1 (by omega)
  simp [m_metre_times, runP_ap, envOf_ap, h1, h2, e1, e2, d1, d2, tmA, tmB]
theorem tmA_mono {a b : Int} (h1 : 1 ≤ a) (h : a ≤ b) (hb : b < 1000000000000000000) : tmA b ≤ tmA a := by
  have := ru_mono (by omega) h hb
  obtain ⟨u1, u2⟩ := ru_pos h1 (by omega)
  obtain ⟨v1, v2⟩ := ru_pos (n := b) (by omega) hb
  unfold tmA
  rw [Int.le_ediv_iff_mul_le (by omega)]
  have q := Int.ediv_mul_le 100000000 (b := ru b) (by omega)
  have q2 : 0 ≤ 100000000 / ru b := Int.ediv_nonneg (by omega) (by omega)
  have := Int.mul_le_mul_of_nonneg_left this q2
  omega
theorem tmB_mono {a b : Int} (h1 : 1 ≤ a) (h : a ≤ b) (hb : b < 1000000000000000000) : tmB b ≤ tmB a := by
  have m := rt_mono (by omega) h hb
  have u1 := rt_pos h1 (by omega)
  have v1 := rt_pos (n := b) (by omega) hb
  unfold tmB
  have : -100000000 / rt a ≤ -100000000 / rt b := by
    rw [Int.le_ediv_iff_mul_le (by omega)]
    have q := Int.ediv_mul_le (-100000000) (b := rt a) (by omega)
    have q2 : -100000000 / rt a ≤ 0 := Int.ediv_nonpos_of_nonpos_of_neg (by omega) (by omega)
    have := Int.mul_le_mul_of_nonpos_left q2 m
    omega
  omega

/-! energies: between, bounded, monotone -/
theorem itE_add (ms : List Mt) (t : Tr) (f p e : Int) (a : Nat) : ∀ j : Nat, itE ms t f p e (a + j) = itE ms t f (p + a) (itE ms t f p e a) j
  | 0 => rfl
  | j + 1 => by
    rw [show a + (j + 1) = (a + j) + 1 from rfl, itE, itE, itE_add ms t f p e a j]
    congr 2
    push_cast
    omega
theorem slope_ge : ∀ {rows : List Seg} (b : Int), (∀ s ∈ rows, SegOk s) → ∀ m ∈ metresL b rows, -100 ≤ m.2.1
  | [], _, _, m, hm => by simp [metresL] at hm
  | s :: r, b, h, m, hm => by
    rw [metresL, List.mem_append] at hm
    rcases hm with hm | hm
    · have := List.eq_of_mem_replicate hm
      subst this
      exact (h s List.mem_cons_self).s1
    · exact slope_ge _ (fun x hx => h x (List.mem_cons_of_mem _ hx)) m hm
theorem atM_slope {rows : List Seg} (L : Lay rows) (p : Int) : -100 ≤ (atM (metresL 0 rows) p).2.1 := by
  unfold atM
  cases h : atI (metresL 0 rows) (p % (metresL 0 rows).length) with
  | none => show (-100 : Int) ≤ 0; omega
  | some m =>
    refine slope_ge 0 L.ok m ?_
    by_cases hl : 0 < (metresL 0 rows).length
    · have h0 := Int.emod_nonneg p (b := ((metresL 0 rows).length : Int)) (by omega)
      have h1 := Int.emod_lt_of_pos p (b := ((metresL 0 rows).length : Int)) (by omega)
      rw [atI_in h0 h1] at h
      exact List.mem_of_getElem? h
    · have : metresL 0 rows = [] := List.eq_nil_of_length_eq_zero (by omega)
      rw [this] at h
      simp [atI] at h
theorem aft_le {m : Mt} {t : Tr} (ht : TrOk t) {e f b : Int} (hs : -100 ≤ m.2.1) (hf : 0 ≤ f) (he : e ≤ b) (hb : 10000000 ≤ b) : aft m t e f none ≤ b + 196200 := by
  have := ht.a10; have := ht.a12
  unfold aft mx
  simp only []
  (repeat' split) <;> omega
theorem itE_le {rows : List Seg} (L : Lay rows) {t : Tr} (ht : TrOk t) {f p e b : Int} (hf : 0 ≤ f) (he : e ≤ b) (hb : 10000000 ≤ b) : ∀ j : Nat, itE (metresL 0 rows) t f p e j ≤ b + 196200 * j
  | 0 => by simp [itE]; omega
  | j + 1 => by
    have := aft_le ht (m := atM (metresL 0 rows) (p + j)) (atM_slope L _) hf (itE_le L ht (p := p) hf he hb j) (by omega)
    rw [itE]
    push_cast
    omega
theorem first_le {rows : List Seg} (L : Lay rows) {t : Tr} (ht : TrOk t) : firstE rows t ≤ 1000000000 := by
  have := itE_le L ht (f := t.f0) (p := 0) (e := t.drive) (b := 10000000) ht.a3 ht.a12 (by omega) (nM rows)
  have := nM_le L
  unfold firstE
  omega
theorem first_nn {rows : List Seg} {t : Tr} (ht : TrOk t) : 0 ≤ firstE rows t := itE_nn ht (by have := ht.a11; omega) _
theorem grF_b {rows : List Seg} (L : Lay rows) {t : Tr} (ht : TrOk t) (j : Nat) (hj : j ≤ nM rows) : 0 ≤ grF rows t j ∧ grF rows t j ≤ 2000000000 := by
  refine ⟨itE_nn ht (first_nn ht) _, ?_⟩
  have := itE_le L ht (f := t.f0) (p := 0) (e := firstE rows t) (b := 1000000000) ht.a3 (first_le L ht) (by omega) j
  have := nM_le L
  unfold grF
  omega
theorem atM_end {rows : List Seg} (B : Blks rows) (b : Nat) (hb : b < nBr rows) : (atM (metresL 0 rows) (bg rows (b + 1) - 1)).1 = ("brake" : Str) := by
  obtain ⟨mt, h1, h2⟩ := B.br b hb
  have q := B.le b hb
  unfold atM
  rw [show (bg rows (b + 1) - 1) % ((metresL 0 rows).length : Int) = bg rows (b + 1) - 1 from Int.emod_eq_of_lt (by omega) (by show _ < (nM rows : Int); omega), atI_in (by omega) (by show _ < (nM rows : Int); omega), h1]
  exact h2
theorem grF_drive {rows : List Seg} (B : Blks rows) (L : Lay rows) {t : Tr} (b : Nat) (hb : b < nBr rows) : t.drive ≤ grF rows t (bg rows b).toNat := by
  have hp := nM_pos B L
  cases b with
  | zero =>
    have n1 := L.n1
    have e : bg rows (nBr rows - 1 + 1) = nM rows := by rw [show nBr rows - 1 + 1 = nBr rows by omega]; exact B.last
    have q := atM_end B (nBr rows - 1) (by omega)
    rw [e] at q
    have z : (bg rows 0).toNat = 0 := by simp [bg]
    rw [z]
    show t.drive ≤ firstE rows t
    obtain ⟨k, hk⟩ : ∃ k, nM rows = k + 1 := ⟨nM rows - 1, by omega⟩
    rw [hk] at q
    unfold firstE
    rw [hk, itE]
    refine aft_br ?_
    rw [← q]
    congr 2
    push_cast
    omega
  | succ b =>
    have q := atM_end B b (by omega)
    have hq := B.le b (by omega)
    obtain ⟨k, hk⟩ : ∃ k, (bg rows (b + 1)).toNat = k + 1 := ⟨(bg rows (b + 1)).toNat - 1, by omega⟩
    rw [hk]
    unfold grF
    rw [itE]
    refine aft_br ?_
    rw [← q]
    congr 2
    omega
theorem le_gr {rows : List Seg} (B : Blks rows) (L : Lay rows) {t : Tr} (ht : TrOk t) : LeL (leL rows t) (grL rows t) := by
  have fr := flat_range (fun k => grF rows t k) (fun b => (bg rows b).toNat) (cnt rows) (by simp [bg]) (nBr rows) (fun b hb => by
    have := B.le b hb
    show (bg rows (b + 1)).toNat = (bg rows b).toNat + cnt rows b
    unfold cnt
    omega)
  have e : grL rows t = (List.range (nBr rows)).flatMap fun b => (List.range (cnt rows b)).map fun j => grF rows t ((bg rows b).toNat + j) := by
    rw [fr]
    show _ = (List.range (bg rows (nBr rows)).toNat).map _
    rw [B.last]
    rfl
  rw [e]
  refine LeL.flat fun b hb => LeL.map fun j _ => ?_
  have hb := List.mem_range.mp hb
  have hq := B.le b hb
  have q := itE_add (metresL 0 rows) t t.f0 0 (firstE rows t) (bg rows b).toNat j
  have : grF rows t ((bg rows b).toNat + j) = itE (metresL 0 rows) t t.f0 (bg rows b) (grF rows t (bg rows b).toNat) j := by
    unfold grF
    rw [q]
    congr 1
    omega
  rw [this]
  exact itE_mono ht (by have := ht.a11; omega) (grF_drive B L b hb) ht.a4 rfl rfl j
/-- a train that another one stands for -/
structure Dom (w t : Tr) : Prop where
  l : t.len ≤ w.len
  f0 : w.f0 ≤ t.f0
  f1 : t.f1 ≤ w.f1
  b0 : w.b0 ≤ t.b0
  li : t.lift = w.lift
  dr : t.drive = w.drive
theorem gr_mono {rows : List Seg} {w t : Tr} (ht : TrOk t) (D : Dom w t) : LeL (grL rows t) (grL rows w) := by
  refine LeL.map fun j _ => itE_mono ht (first_nn ht) ?_ D.f0 D.li D.dr j
  refine itE_mono ht (by have := ht.a11; omega) (by rw [D.dr]; exact Int.le_refl _) D.f0 D.li D.dr _
theorem le_mono {rows : List Seg} {w t : Tr} (hw : TrOk w) (D : Dom w t) : LeL (leL rows w) (leL rows t) :=
  LeL.flat fun b _ => LeL.map fun j _ => itE_mono hw (by have := hw.a11; omega) (by rw [D.dr]; exact Int.le_refl _) D.f1 D.li.symm D.dr.symm j
theorem en_mono {rows : List Seg} {w t : Tr} (D : Dom w t) : LeL (enL rows w) (enL rows t) := enL_mono D.f0 D.b0 D.li.symm
theorem grL_len (rows : List Seg) (t : Tr) : (grL rows t).length = nM rows := by simp [grL]
theorem leL_len {rows : List Seg} (B : Blks rows) (t : Tr) : (leL rows t).length = nM rows := by
  have := leB_len B t (nBr rows) (Nat.le_refl _)
  rw [B.last] at this
  unfold leL
  omega
theorem enL_len' {rows : List Seg} (B : Blks rows) (t : Tr) : (enL rows t).length = nM rows := by
  have := enL_len B t (nBr rows) (Nat.le_refl _)
  rw [B.last] at this
  unfold enL
  omega
theorem gr_b {rows : List Seg} (L : Lay rows) {t : Tr} (ht : TrOk t) (i : Int) : 0 ≤ gi (grL rows t) i ∧ gi (grL rows t) i ≤ 2000000000 := by
  unfold gi grL
  rw [List.getD_eq_getElem?_getD, List.getElem?_map]
  by_cases h : i.toNat < nM rows
  · rw [List.getElem?_range h]
    exact grF_b L ht _ (by omega)
  · rw [List.getElem?_eq_none (by simp; omega)]
    simp
theorem le_nn {rows : List Seg} {t : Tr} (ht : TrOk t) (i : Int) : 0 ≤ gi (leL rows t) i := by
  unfold gi
  rw [List.getD_eq_getElem?_getD]
  cases h : (leL rows t)[i.toNat]? with
  | none => simp
  | some x =>
    have hx := List.mem_of_getElem? h
    unfold leL leB at hx
    rw [List.mem_flatMap] at hx
    obtain ⟨b, _, hx⟩ := hx
    rw [List.mem_map] at hx
    obtain ⟨j, _, rfl⟩ := hx
    exact itE_nn ht (by have := ht.a11; omega) _
theorem le_gr_i {rows : List Seg} (B : Blks rows) (L : Lay rows) {t : Tr} (ht : TrOk t) (i : Int) : gi (leL rows t) i ≤ gi (grL rows t) i := (le_gr B L ht).gi i

/-! stalls -/
theorem intsOf_map : ∀ xs : List Int, intsOf (xs.map .int) = some xs
  | [] => rfl
  | x :: xs => by rw [List.map_cons, intsOf, intsOf_map xs]; rfl
theorem min_sl (xs : List Int) (i j : Int) (h0 : 0 ≤ i) (h1 : i < j) (h2 : j ≤ xs.length) : ∃ m, minI (cutA xs (some i) (some j)) = some m ∧ (∃ k, i ≤ k ∧ k < j ∧ gi xs k = m) ∧ ∀ k, i ≤ k → k < j → m ≤ gi xs k := by
  rw [cut_range xs i j h0 (by omega) h2]
  have hl : ((xs.drop i.toNat).take (j.toNat - i.toNat)).length = j.toNat - i.toNat := by simp; omega
  have hg : ∀ k : Nat, k < j.toNat - i.toNat → ((xs.drop i.toNat).take (j.toNat - i.toNat))[k]? = some (gi xs (i + k)) := fun k hk => by
    rw [List.getElem?_take_of_lt hk, List.getElem?_drop]
    have := atI_gi (xs := xs) (i := i + k) (by omega) (by omega)
    rw [atI_in (by omega) (by omega)] at this
    rw [← this]
    congr 1
    omega
  generalize (xs.drop i.toNat).take (j.toNat - i.toNat) = ys at *
  cases ys with
  | nil => simp at hl; omega
  | cons y ys =>
    obtain ⟨a, b⟩ := foldl_min y ys
    refine ⟨_, rfl, ?_, fun k k0 k1 => ?_⟩
    · obtain ⟨k, hk⟩ := List.getElem?_of_mem a
      have : k < (y :: ys).length := (List.getElem?_eq_some_iff.mp hk).1
      rw [hg k (by omega)] at hk
      exact ⟨i + k, by omega, by omega, Option.some.inj hk⟩
    · have := hg (k - i).toNat (by omega)
      rw [show i + ((k - i).toNat : Int) = k by omega] at this
      exact b _ (List.mem_of_getElem? this)
def zer (rows : List Seg) (t : Tr) (b : Nat) : Prop := ∃ k, bg rows b ≤ k ∧ k < bk rows b + 1 ∧ gi (leL rows t) k = 0
theorem min_ok {rows : List Seg} (B : Blks rows) {t : Tr} (ht : TrOk t) (b : Nat) (hb : b < nBr rows) : ∃ m, minI (cutA (leL rows t) (some (bg rows b)) (some (bk rows b + 1))) = some m ∧ (m = 0 ↔ zer rows t b) := by
  have q := B.le b hb
  have hl := leL_len B t
  obtain ⟨m, h1, ⟨k, k0, k1, h2⟩, h3⟩ := min_sl (leL rows t) (bg rows b) (bk rows b + 1) (by omega) (by omega) (by omega)
  refine ⟨m, h1, fun e => ⟨k, k0, k1, by omega⟩, fun ⟨k', a0, a1, a2⟩ => ?_⟩
  have := h3 k' a0 a1
  have := le_nn ht (rows := rows) k
  omega
/-! times -/
def mn (a b : Int) : Int := if b < a then b else a
noncomputable def tA (rows : List Seg) (t : Tr) (i : Int) : Int := tmA (mx (gi (grL rows t) i) (gi (grL rows t) (i + 1)))
noncomputable def tB (rows : List Seg) (t : Tr) (i : Int) : Int := tmB (mn (gi (leL rows t) i) (gi (leL rows t) (i + 1)))
def sm (g : Int → Int) (a : Int) : Nat → Int
  | 0 => 0
  | k + 1 => sm g a k + g (a + k)
theorem sm_mono {g g' : Int → Int} {a : Int} : ∀ {n : Nat}, (∀ k : Nat, k < n → g (a + k) ≤ g' (a + k)) → sm g a n ≤ sm g' a n
  | 0, _ => Int.le_refl _
  | n + 1, h => by
    have := sm_mono (n := n) fun k hk => h k (by omega)
    have := h n (by omega)
    unfold sm
    omega
def JTb (rows : List Seg) (t : Tr) (b : Nat) (first behind : Int) (k : Nat) (ρ : Z.Env) (S : Store) : Prop := ∃ (o8 o9 : Option W),
  ρ = [some (.val (layP rows)), some (.val (trP t)), some (.val (.int b)), some (.val (.int first)), some (.val (.int behind)), some (.val (.lst ((leL rows t).map .int))), some (.val (.lst ((grL rows t).map .int))), some (.val (.tup [.int (sm (tA rows t) first k), .int (sm (tB rows t) first k)])), o8, o9] ∧ S = []
theorem mins_pos {rows : List Seg} {t : Tr} (ht : TrOk t) {b : Nat} (hz : ¬ zer rows t b) (k : Int) (h0 : bg rows b ≤ k) (h1 : k ≤ bk rows b) : 1 ≤ gi (leL rows t) k := by
  have := le_nn ht (rows := rows) k
  rcases Int.lt_or_le (gi (leL rows t) k) 1 with q | q
  · exact (hz ⟨k, h0, by omega, by omega⟩).elim
  · exact q
theorem added_ok (a b c d : Int) : m_added [.tup [.int a, .int b], .tup [.int c, .int d]] = .ok (.tup [.int (a + c), .int (b + d)]) := by
  simp [m_added, runP_ap, envOf_ap]
theorem tb_ok {rows : List Seg} (B : Blks rows) (L : Lay rows) {t : Tr} (ht : TrOk t) (b : Nat) (hb : b < nBr rows) (first behind : Int) (h0 : bg rows b ≤ first) (h1 : behind ≤ bk rows b) (h01 : first ≤ behind) :
    (zer rows t b → m_times_between [layP rows, trP t, .int b, .int first, .int behind] = .ok .non) ∧
    (¬ zer rows t b → m_times_between [layP rows, trP t, .int b, .int first, .int behind] = .ok (.tup [.int (sm (tA rows t) first (behind - first).toNat), .int (sm (tB rows t) first (behind - first).toNat)])) := by
  have q := B.le b hb
  have hle := nM_le L
  have b1 := begin_ok B b hb
  have b2 := brake_ok B b hb
  have g := great_ok B L ht
  have l := least_ok B L ht
  obtain ⟨m, hm, hm0⟩ := min_ok B ht b hb
  have lg := grL_len rows t
  have ll := leL_len B t
  have ert : rngOk first behind = true := rngOk_of (by omega) (by omega) (by omega) (by omega)
  refine ⟨fun z => ?_, fun z => ?_⟩
  · have : m = 0 := hm0.mpr z
    subst this
    simp [m_times_between, runP_ap, envOf_ap, NSL, b1, b2, g, l, cutA_map, intsOf_map, hm]
  · have hm1 : ¬ m = 0 := fun e => z (hm0.mp e)
    obtain ⟨_, _, eL, o8, o9, rfl, rfl⟩ := for_rng (JTb rows t b first behind) (t := .nm 8) (body := m_times_between_b1) (lo := first) (n := (behind - first).toNat) (by
      rintro k _ _ hk ⟨o8, o9, rfl, rfl⟩
      have e1 := atI_gi (xs := leL rows t) (i := first + k) (by omega) (by omega)
      have e2 := atI_gi (xs := leL rows t) (i := first + k + 1) (by omega) (by omega)
      have e3 := atI_gi (xs := grL rows t) (i := first + k) (by omega) (by omega)
      have e4 := atI_gi (xs := grL rows t) (i := first + k + 1) (by omega) (by omega)
      have p1 := mins_pos ht z (first + k) (by omega) (by omega)
      have p2 := mins_pos ht z (first + k + 1) (by omega) (by omega)
      have g1 := le_gr_i B L ht (first + k)
      have g2 := le_gr_i B L ht (first + k + 1)
      have g3 := (gr_b L ht (first + k)).2
      have g4 := (gr_b L ht (first + k + 1)).2
      have mt := mt_ok (mn (gi (leL rows t) (first + k)) (gi (leL rows t) (first + k + 1))) (mx (gi (grL rows t) (first + k)) (gi (grL rows t) (first + k + 1))) (by unfold mn; split <;> omega) (by unfold mn mx; split <;> split <;> omega) (by unfold mx; split <;> omega)
      unfold mn mx at mt
      simp (disch := omega) [m_times_between_b1, e1, e2, e3, e4, mt, added_ok]
      exact ⟨_, _, rfl, rfl⟩) (ρ := [some (.val (layP rows)), some (.val (trP t)), some (.val (.int b)), some (.val (.int first)), some (.val (.int behind)), some (.val (.lst ((leL rows t).map .int))), some (.val (.lst ((grL rows t).map .int))), some (.val (.tup [.int 0, .int 0])), none, none]) (S := []) ⟨_, _, rfl, rfl⟩
    simp [m_times_between, runP_ap, envOf_ap, NSL, b1, b2, g, l, cutA_map, intsOf_map, hm, hm1, ert, eL]
theorem zer_mono {rows : List Seg} {w t : Tr} (hw : TrOk w) (D : Dom w t) {b : Nat} (h : ¬ zer rows w b) (ht : TrOk t) : ¬ zer rows t b := fun ⟨k, k0, k1, k2⟩ => by
  have := mins_pos hw h k k0 (by omega)
  have := (le_mono (rows := rows) hw D).gi k
  omega
theorem tA_mono {rows : List Seg} (B : Blks rows) (L : Lay rows) {w t : Tr} (hw : TrOk w) (ht : TrOk t) (D : Dom w t) {b : Nat} (h : ¬ zer rows w b) {k : Int} (k0 : bg rows b ≤ k) (k1 : k + 1 ≤ bk rows b) :
    tA rows w k ≤ tA rows t k ∧ tB rows t k ≤ tB rows w k := by
  have p1 := mins_pos hw h k k0 (by omega)
  have p2 := mins_pos hw h (k + 1) (by omega) k1
  have m1 := (le_mono (rows := rows) hw D).gi k
  have m2 := (le_mono (rows := rows) hw D).gi (k + 1)
  have m3 := (gr_mono (rows := rows) ht D).gi k
  have m4 := (gr_mono (rows := rows) ht D).gi (k + 1)
  have g1 := le_gr_i B L ht k
  have g2 := le_gr_i B L ht (k + 1)
  have g3 := (gr_b L hw k).2
  have g4 := (gr_b L hw (k + 1)).2
  exact ⟨tmA_mono (by unfold mx; split <;> omega) (by unfold mx; split <;> split <;> omega) (by unfold mx; split <;> omega),
    tmB_mono (by unfold mn; split <;> omega) (by unfold mn; split <;> split <;> omega) (by unfold mn; split <;> omega)⟩

/-! faults -/
def good (rows : List Seg) (t : Tr) (b : Nat) : Prop := ¬ bk rows b - bg rows b < t.len ∧ ¬ zer rows t b ∧ ¬ gi (enL rows t) (bk rows b) < gi (grL rows t) (bk rows b)
theorem good_mono {rows : List Seg} {w t : Tr} (hw : TrOk w) (ht : TrOk t) (D : Dom w t) {b : Nat} (h : good rows w b) : good rows t b := by
  obtain ⟨h1, h2, h3⟩ := h
  have := D.l
  have m3 := (gr_mono (rows := rows) ht D).gi (bk rows b)
  have m4 := (en_mono (rows := rows) D).gi (bk rows b)
  exact ⟨by omega, zer_mono hw D h2 ht, by omega⟩
def JF (rows : List Seg) (t : Tr) (k : Nat) (ρ : Z.Env) (S : Store) : Prop := ∃ (fs : List P) (o6 o7 o8 : Option W),
  ρ = [some (.val (layP rows)), some (.val (trP t)), some (.val (.lst ((enL rows t).map .int))), some (.val (.lst ((leL rows t).map .int))), some (.val (.lst ((grL rows t).map .int))), some (.loc 0), o6, o7, o8] ∧
  S = [.lst (fs.map .val)] ∧ fs.length ≤ 3 * k ∧ (fs = [] ↔ ∀ b, b < k → good rows t b)
theorem good_succ {rows : List Seg} {t : Tr} {k : Nat} {fs gs : List P} (h : fs = [] ↔ ∀ b, b < k → good rows t b) (hg : gs = [] ↔ good rows t k) : fs ++ gs = [] ↔ ∀ b, b < k + 1 → good rows t b := by
  rw [List.append_eq_nil_iff, h, hg]
  constructor
  · rintro ⟨a, c⟩ b hb
    by_cases e : b = k
    · subst e; exact c
    · exact a b (by omega)
  · intro a
    exact ⟨fun b hb => a b (by omega), a k (by omega)⟩
theorem faults_ok {rows : List Seg} (B : Blks rows) (L : Lay rows) {t : Tr} (ht : TrOk t) : ∃ fs : List P, m_faults [layP rows, trP t] = .ok (.lst fs) ∧ (fs = [] ↔ ∀ b, b < nBr rows → good rows t b) := by
  have hn2 := L.n2
  have hle := nM_le L
  have lg := grL_len rows t
  have ll := leL_len B t
  have le := enL_len' B t
  obtain ⟨_, _, eL, fs, o6, o7, o8, rfl, rfl, hl, hf⟩ := for_rng (JF rows t) (t := .nm 6) (body := m_faults_b1) (lo := 0) (n := nBr rows) (by
    rintro k _ _ hk ⟨fs, o6, o7, o8, rfl, rfl, hl, hf⟩
    have q := B.le k hk
    have b1 := begin_ok B k hk
    have b2 := brake_ok B k hk
    have e1 := atI_gi (xs := grL rows t) (i := bk rows k) (by omega) (by omega)
    have e2 := atI_gi (xs := enL rows t) (i := bk rows k) (by omega) (by omega)
    obtain ⟨m, hm, hm0⟩ := min_ok B ht k hk
    have hl2 : fs.length < 100000 := by omega
    have hl3 : fs.length + 1 < 100000 := by omega
    have hl4 : fs.length + 1 + 1 < 100000 := by omega
    have key : ∃ gs : List P, gs.length ≤ 3 ∧ (gs = [] ↔ good rows t k) ∧ ((bindR (bindT (.nm 6) (.int (0 + (k : Int))) [some (.val (layP rows)), some (.val (trP t)), some (.val (.lst ((enL rows t).map .int))), some (.val (.lst ((leL rows t).map .int))), some (.val (.lst ((grL rows t).map .int))), some (.loc 0), o6, o7, o8]) [.lst (fs.map .val)]).seq m_faults_b1) =
        .nx [some (.val (layP rows)), some (.val (trP t)), some (.val (.lst ((enL rows t).map .int))), some (.val (.lst ((leL rows t).map .int))), some (.val (.lst ((grL rows t).map .int))), some (.loc 0), some (.val (.int k)), some (.val (.int (bg rows k))), some (.val (.int (bk rows k)))] [.lst ((fs ++ gs).map .val)] := by
      by_cases c1 : bk rows k - bg rows k < t.len
      · by_cases c2 : m = 0
        · by_cases c3 : gi (enL rows t) (bk rows k) < gi (grL rows t) (bk rows k)
          · exact ⟨[.tup [.str "short", .int k], .tup [.str "stall", .int k], .tup [.str "fast", .int k]], by simp, by simp [good, c1], by simp (disch := omega) [m_faults_b1, NSL, b1, b2, e1, e2, cutA_map, intsOf_map, hm, c1, c2, c3, hl2, hl3, hl4]⟩
          · exact ⟨[.tup [.str "short", .int k], .tup [.str "stall", .int k]], by simp, by simp [good, c1], by simp (disch := omega) [m_faults_b1, NSL, b1, b2, e1, e2, cutA_map, intsOf_map, hm, c1, c2, c3, hl2, hl3, hl4]⟩
        · by_cases c3 : gi (enL rows t) (bk rows k) < gi (grL rows t) (bk rows k)
          · exact ⟨[.tup [.str "short", .int k], .tup [.str "fast", .int k]], by simp, by simp [good, c1], by simp (disch := omega) [m_faults_b1, NSL, b1, b2, e1, e2, cutA_map, intsOf_map, hm, c1, c2, c3, hl2, hl3, hl4]⟩
          · exact ⟨[.tup [.str "short", .int k]], by simp, by simp [good, c1], by simp (disch := omega) [m_faults_b1, NSL, b1, b2, e1, e2, cutA_map, intsOf_map, hm, c1, c2, c3, hl2, hl3, hl4]⟩
      · by_cases c2 : m = 0
        · have z := hm0.mp c2
          by_cases c3 : gi (enL rows t) (bk rows k) < gi (grL rows t) (bk rows k)
          · exact ⟨[.tup [.str "stall", .int k], .tup [.str "fast", .int k]], by simp, by simp [good, z], by simp (disch := omega) [m_faults_b1, NSL, b1, b2, e1, e2, cutA_map, intsOf_map, hm, c1, c2, c3, hl2, hl3, hl4]⟩
          · exact ⟨[.tup [.str "stall", .int k]], by simp, by simp [good, z], by simp (disch := omega) [m_faults_b1, NSL, b1, b2, e1, e2, cutA_map, intsOf_map, hm, c1, c2, c3, hl2, hl3, hl4]⟩
        · have z : ¬ zer rows t k := fun z => c2 (hm0.mpr z)
          by_cases c3 : gi (enL rows t) (bk rows k) < gi (grL rows t) (bk rows k)
          · exact ⟨[.tup [.str "fast", .int k]], by simp, by simp [good, c3], by simp (disch := omega) [m_faults_b1, NSL, b1, b2, e1, e2, cutA_map, intsOf_map, hm, c1, c2, c3, hl2, hl3, hl4]⟩
          · exact ⟨[], by simp, by simp [good, c1, z]; omega, by simp (disch := omega) [m_faults_b1, NSL, b1, b2, e1, e2, cutA_map, intsOf_map, hm, c1, c2, c3, hl2, hl3, hl4]⟩
    obtain ⟨gs, g1, g2, g3⟩ := key
    rw [g3]
    exact ⟨fs ++ gs, _, _, _, rfl, rfl, by simp; omega, good_succ hf g2⟩) (ρ := [some (.val (layP rows)), some (.val (trP t)), some (.val (.lst ((enL rows t).map .int))), some (.val (.lst ((leL rows t).map .int))), some (.val (.lst ((grL rows t).map .int))), some (.loc 0), none, none, none]) (S := [.lst []]) ⟨[], _, _, _, rfl, rfl, by simp, by simp⟩
  refine ⟨fs, ?_, hf⟩
  have bl := blocks_ok B
  have ert : rngOk 0 (nBr rows : Int) = true := rngOk_of (by omega) (by omega) (by omega) (by omega)
  have g := great_ok B L ht
  have l := least_ok B L ht
  have en := env_ok B L t
  simp [m_faults, runP_ap, envOf_ap, NSL, bl, ert, g, l, en, eL]

/-! the worst train -/
@[simp] theorem tr_isO (t : Tr) (m : Str) : isObjC "Train" m (trP t) = !(["length", "friction", "brake", "lift", "drive"] : List Str).contains m := by simp [trP]
theorem mx_r (a b : Int) : b ≤ mx a b := by unfold mx; split <;> omega
theorem mn_l (a b : Int) : mn a b ≤ a := by unfold mn; split <;> omega
theorem mn_r (a b : Int) : mn a b ≤ b := by unfold mn; split <;> omega
def wor (w t : Tr) : Tr := ⟨mx w.len t.len, mn w.f0 t.f0, mx w.f1 t.f1, mn w.b0 t.b0, mx w.b1 t.b1, w.lift, w.drive⟩
theorem wor_ok {w t : Tr} (hw : TrOk w) (ht : TrOk t) : TrOk (wor w t) := by
  obtain ⟨a1, a2, a3, a4, a5, a6, a7, a8, a9, a10, a11, a12⟩ := hw
  obtain ⟨b1, b2, b3, b4, b5, b6, b7, b8, b9, b10, b11, b12⟩ := ht
  constructor <;> simp only [wor, mx, mn] <;> (repeat' split) <;> omega
theorem wor_dom {w t : Tr} (h1 : t.lift = w.lift) (h2 : t.drive = w.drive) : Dom (wor w t) t := ⟨mx_r _ _, mn_r _ _, mx_r _ _, mn_r _ _, h1, h2⟩
theorem wor_dom2 {w t u : Tr} (D : Dom w u) : Dom (wor w t) u := by
  obtain ⟨d1, d2, d3, d4, d5, d6⟩ := D
  have := mx_l w.len t.len
  have := mn_l w.f0 t.f0
  have := mx_l w.f1 t.f1
  have := mn_l w.b0 t.b0
  constructor <;> simp only [wor] <;> omega
def JW (ts : List Tr) (t0 : Tr) (r : List Tr) (ρ : Z.Env) (S : Store) : Prop := ∃ (w : Tr) (o5 : Option W),
  ρ = [some (.val (.lst (ts.map trP))), some (.val (trP t0)), some (.val (.int w.len)), some (.val (.tup [.int w.f0, .int w.f1])), some (.val (.tup [.int w.b0, .int w.b1])), o5] ∧ S = [] ∧
  TrOk w ∧ w.lift = t0.lift ∧ w.drive = t0.drive ∧ (∀ t ∈ r, TrOk t ∧ t.lift = t0.lift ∧ t.drive = t0.drive) ∧ ∀ t ∈ ts, t ∈ r ∨ Dom w t
theorem eqi_ok (j : Nat) (a b : Int) : m_l_equal (j + 1) [.int a, .int b] = .ok (.bl (decide (a = b))) := by
  by_cases h : a = b <;> simp [m_l_equal, runP_ap, envOf_ap, isi, h]
theorem strain_ok {ds : List Int} (hd : Dr ds 30) : ∃ t, TrOk t ∧ m_l_safe_train [.lst (ds.map .int)] = .ok (datP t) := by
  have e5 := hd.at (i := 5) (by omega) (by omega)
  have r5 := hd.r (i := 5) (by omega) (by omega)
  have e6 := hd.at (i := 6) (by omega) (by omega)
  have r6 := hd.r (i := 6) (by omega) (by omega)
  have e7 := hd.at (i := 7) (by omega) (by omega)
  have e8 := hd.at (i := 8) (by omega) (by omega)
  have e9 := hd.at (i := 9) (by omega) (by omega)
  have r9 := hd.r (i := 9) (by omega) (by omega)
  have e10 := hd.at (i := 10) (by omega) (by omega)
  have r10 := hd.r (i := 10) (by omega) (by omega)
  have e11 := hd.at (i := 11) (by omega) (by omega)
  have r11 := hd.r (i := 11) (by omega) (by omega)
  generalize gi ds 5 = d5 at *
  generalize gi ds 6 = d6 at *
  generalize gi ds 7 = d7 at *
  generalize gi ds 8 = d8 at *
  generalize gi ds 9 = d9 at *
  generalize gi ds 10 = d10 at *
  generalize gi ds 11 = d11 at *
  refine ⟨⟨1 + d7 % 4, d5 % 60, d5 % 60 + d8 % 60, 400000 + 7 * d6, 400000 + 7 * d6 + 11 * d9, 40000 + d10, 20000 + d11⟩, ?_, ?_⟩
  · constructor <;> simp only [] <;> omega
  · simp (disch := omega) [m_l_safe_train, runP_ap, envOf_ap, e5, e6, e7, e8, e9, e10, e11, mulOk_c, mulOk_d, datP]
theorem srows_ok {ds : List Int} (hd : Dr ds 30) : ∃ rows, Lay rows ∧ m_l_safe_rows [.lst (ds.map .int)] = .ok (.lst (rows.map segP)) := by
  have e0 := hd.at (i := 0) (by omega) (by omega)
  have e1 := hd.at (i := 1) (by omega) (by omega)
  have e2 := hd.at (i := 2) (by omega) (by omega)
  have e3 := hd.at (i := 3) (by omega) (by omega)
  have e4 := hd.at (i := 4) (by omega) (by omega)
  generalize gi ds 0 = d0 at *
  generalize gi ds 1 = d1 at *
  generalize gi ds 2 = d2 at *
  generalize gi ds 3 = d3 at *
  generalize gi ds 4 = d4 at *
  refine ⟨[⟨"coast", 4, 0⟩, ⟨"lift", 2 + d0 % 5, 5 + d1 % 26⟩, ⟨"coast", 2 + d0 % 5, 0 - (5 + d1 % 26)⟩, ⟨"brake", 3 + d2 % 4, 0⟩, ⟨"coast", 4 + d3 % 4, 0⟩, ⟨"brake", 3 + d4 % 4, 0⟩], ?_, ?_⟩
  · refine ⟨?_, by simp [nBr], by simp [nBr], by simp [tot]; omega, ?_, ⟨[⟨"coast", 4, 0⟩, ⟨"lift", 2 + d0 % 5, 5 + d1 % 26⟩, ⟨"coast", 2 + d0 % 5, 0 - (5 + d1 % 26)⟩, ⟨"brake", 3 + d2 % 4, 0⟩, ⟨"coast", 4 + d3 % 4, 0⟩], ⟨"brake", 3 + d4 % 4, 0⟩, rfl, rfl⟩⟩
    · intro s hs
      simp only [List.mem_cons, List.not_mem_nil, or_false] at hs
      rcases hs with rfl | rfl | rfl | rfl | rfl | rfl <;> constructor <;> simp <;> omega
    · simp [hgt]
      rw [Int.mul_neg]; exact Int.add_right_neg _
  · simp (disch := omega) [m_l_safe_rows, runP_ap, envOf_ap, e0, e1, e2, e3, e4, segP]

end Gk15
end
-- part M15b
section
set_option Elab.async false
set_option linter.all false
set_option maxRecDepth 100000
set_option autoImplicit false
namespace Gk15
open PySem PySem.Spec PyProof.Rows L2 Z
/-! the metres of a block -/
theorem mblk : ∀ (rows : List Seg) (m bb : Int), (∀ s ∈ rows, SegOk s) → ∀ (j : Nat) (p e k : Int), (m :: beginsL m rows)[j]? = some p → (beginsL m rows)[j]? = some e → (brakesL m rows)[j]? = some k →
    ∀ i : Nat, p ≤ m + i → m + i < e → ∃ mt, (metresL bb rows)[i]? = some mt ∧ mt.2.2 = bb + j ∧ (mt.1 = ("brake" : Str) ↔ k ≤ m + i)
  | [], m, bb, _, j, p, e, k, _, h, _ => by simp [beginsL] at h
  | s :: r, m, bb, h, j, p, e, k, hp, he, hk => by
    intro i hi1 hi2
    have hs := h s List.mem_cons_self
    have hr : ∀ s ∈ r, SegOk s := fun x hx => h x (List.mem_cons_of_mem _ hx)
    have hl := hs.l1
    obtain ⟨a1, a2, a3⟩ := blk r (m + s.len) (bb + brN s) hr
    have rep : i < s.len.toNat → (metresL bb (s :: r))[i]? = some (s.kind, s.slope, bb) := fun q => by
      rw [metresL, List.getElem?_append_left (by rw [List.length_replicate]; omega), List.getElem?_replicate, if_pos q]
    have sh : ¬ i < s.len.toNat → (metresL bb (s :: r))[i]? = (metresL (bb + brN s) r)[i - s.len.toNat]? := fun q => by
      rw [metresL, List.getElem?_append_right (by rw [List.length_replicate]; omega), List.length_replicate]
    have later : ∀ (j : Nat) (p : Int), (beginsL (m + s.len) r)[j]? = some p → m + s.len < p := fun j p q => by
      have : j < (brakesL (m + s.len) r).length := by have := (List.getElem?_eq_some_iff.mp q).1; omega
      have B' := a3 j p _ q (List.getElem?_eq_getElem this)
      have := B'.k1; have := B'.k2; omega
    cases hb : isBr s with
    | false =>
      have e1 : beginsL m (s :: r) = beginsL (m + s.len) r := by rw [beginsL, hb]; simp
      have e2 : brakesL m (s :: r) = brakesL (m + s.len) r := by rw [brakesL, hb]; simp
      have hkd : s.kind ≠ ("brake" : Str) := by simpa [isBr] using hb
      have hn : brN s = 0 := by simp [brN, hkd]
      rw [e1] at hp he
      rw [e2] at hk
      have B := a3 j e k he hk
      by_cases q : i < s.len.toNat
      · cases j with
        | zero =>
          refine ⟨_, rep q, by simp, ⟨fun z => (hkd z).elim, fun z => ?_⟩⟩
          have := B.k1; omega
        | succ j =>
          exfalso
          have := later j p (by simpa using hp)
          omega
      · rw [sh q]
        have hp' : ((m + s.len) :: beginsL (m + s.len) r)[j]? = some (if j = 0 then m + s.len else p) := by
          cases j with
          | zero => simp
          | succ j => simpa using hp
        obtain ⟨mt, c1, c2, c3⟩ := mblk r (m + s.len) (bb + brN s) hr j _ e k hp' he hk (i - s.len.toNat) (by split <;> omega) (by omega)
        exact ⟨mt, c1, by omega, by rw [c3]; omega⟩
    | true =>
      have e1 : beginsL m (s :: r) = (m + s.len) :: beginsL (m + s.len) r := by rw [beginsL, hb]; simp
      have e2 : brakesL m (s :: r) = m :: brakesL (m + s.len) r := by rw [brakesL, hb]; simp
      have hkd : s.kind = ("brake" : Str) := by simpa [isBr] using hb
      have hn : brN s = 1 := by simp [brN, hkd]
      rw [e1] at hp he
      rw [e2] at hk
      cases j with
      | zero =>
        simp at hp he hk
        subst hp he hk
        refine ⟨_, rep (by omega), by simp, ⟨fun _ => hi1, fun _ => hkd⟩⟩
      | succ j =>
        have he' : (beginsL (m + s.len) r)[j]? = some e := by simpa using he
        have hk' : (brakesL (m + s.len) r)[j]? = some k := by simpa using hk
        have hp' : ((m + s.len) :: beginsL (m + s.len) r)[j]? = some p := by simpa using hp
        have q : ¬ i < s.len.toNat := fun q => by
          cases j with
          | zero => simp at hp'; omega
          | succ j =>
            have := later j p (by simpa using hp')
            omega
        rw [sh q]
        obtain ⟨mt, c1, c2, c3⟩ := mblk r (m + s.len) (bb + brN s) hr j p e k hp' he' hk' (i - s.len.toNat) (by omega) (by omega)
        exact ⟨mt, c1, by push_cast; omega, by rw [c3]; omega⟩
theorem mt_at {rows : List Seg} (B : Blks rows) (L : Lay rows) (b : Nat) (hb : b < nBr rows) (i : Int) (h1 : bg rows b ≤ i) (h2 : i < bg rows (b + 1)) :
    ∃ mt, atI (metresL 0 rows) i = some mt ∧ mt.2.2 = b ∧ (mt.1 = ("brake" : Str) ↔ bk rows b ≤ i) := by
  obtain ⟨a1, a2, _⟩ := blk rows 0 0 L.ok
  have q := B.le b hb
  have g1 : (0 :: beginsL 0 rows)[b]? = some (bg rows b) := by
    have : b < (0 :: beginsL 0 rows).length := by simp; omega
    simp only [bg, List.getD, List.getElem?_eq_getElem this, Option.getD_some]
  have g2 : (beginsL 0 rows)[b]? = some (bg rows (b + 1)) := by
    have : b < (beginsL 0 rows).length := by omega
    simp [bg, List.getD, this]
  have g3 : (brakesL 0 rows)[b]? = some (bk rows b) := by
    have : b < (brakesL 0 rows).length := by omega
    simp [bk, List.getD, this]
  obtain ⟨mt, c1, c2, c3⟩ := mblk rows 0 0 L.ok b _ _ _ g1 g2 g3 i.toNat (by omega) (by omega)
  refine ⟨mt, ?_, by omega, by rw [c3]; omega⟩
  rw [atI_in (by omega) (by show i < (nM rows : Int); omega), c1]
theorem blk_of {rows : List Seg} (B : Blks rows) (i : Int) (h0 : 0 ≤ i) : ∀ n, n ≤ nBr rows → i < bg rows n → ∃ b, b < n ∧ bg rows b ≤ i ∧ i < bg rows (b + 1)
  | 0, _, h => by simp [bg] at h; omega
  | n + 1, hn, h => by
    by_cases q : i < bg rows n
    · obtain ⟨b, h1, h2, h3⟩ := blk_of B i h0 n (by omega) q
      exact ⟨b, by omega, h2, h3⟩
    · exact ⟨n, by omega, by omega, h⟩
theorem blk_ex {rows : List Seg} (B : Blks rows) (i : Int) (h0 : 0 ≤ i) (h1 : i < nM rows) : ∃ b, b < nBr rows ∧ bg rows b ≤ i ∧ i < bg rows (b + 1) :=
  blk_of B i h0 (nBr rows) (Nat.le_refl _) (by rw [B.last]; exact h1)
theorem filter_first {n k0 : Nat} {p : Nat → Bool} (hk : k0 < n) (h1 : p k0 = true) (h0 : ∀ k, k < k0 → p k = false) : atI ((List.range n).filter p) 0 = some k0 := by
  obtain ⟨m, rfl⟩ : ∃ m, n = k0 + (m + 1) := ⟨n - k0 - 1, by omega⟩
  rw [List.range_add, List.filter_append, List.filter_eq_nil_iff.mpr (fun k hk => by simpa using h0 k (List.mem_range.mp hk)), List.nil_append, List.range_succ_eq_map, List.map_cons, List.filter_cons]
  rw [if_pos (by simpa using h1)]
  exact (atI_nn _ 0).trans rfl
theorem gi_nat (xs : List Int) (j : Nat) : gi xs (j : Int) = xs.getD j 0 := rfl
theorem mt_get {rows : List Seg} (i : Nat) (h : i < nM rows) : ∃ mt, atI (metresL 0 rows) (i : Int) = some mt := by
  rw [atI_nn]
  exact ⟨_, List.getElem?_eq_getElem h⟩
def mtI (rows : List Seg) (i : Nat) : Mt := ((atI (metresL 0 rows) (i : Int))).getD (("" : Str), 0, 0)
theorem mtI_at {rows : List Seg} {i : Nat} {mt : Mt} (h : atI (metresL 0 rows) (i : Int) = some mt) : mtI rows i = mt := by simp [mtI, h]
theorem mtI_ok {rows : List Seg} (i : Nat) (h : i < nM rows) : atI (metresL 0 rows) (i : Int) = some (mtI rows i) := by
  obtain ⟨mt, e⟩ := mt_get i h
  rw [mtI_at e, e]
theorem mtI_blk {rows : List Seg} (B : Blks rows) (L : Lay rows) (b : Nat) (hb : b < nBr rows) (i : Nat) (h1 : bg rows b ≤ i) (h2 : (i : Int) < bg rows (b + 1)) : (mtI rows i).2.2 = b ∧ ((mtI rows i).1 = ("brake" : Str) ↔ bk rows b ≤ i) := by
  obtain ⟨mt, e, c⟩ := mt_at B L b hb i h1 h2
  rw [mtI_at e]
  exact c
theorem first_ok {rows : List Seg} (B : Blks rows) (L : Lay rows) (b : Nat) (hb : b < nBr rows) : m_l_first_of [.lst ((metresL 0 rows).map metP), .int b] = .ok (.int (bg rows b)) := by
  have q := B.le b hb
  have hle := nM_le L
  have ff : atI ((List.range (nM rows)).filter fun k => decide ((mtI rows k).2.2 = (b : Int))) 0 = some (bg rows b).toNat := by
    refine filter_first (by omega) ?_ fun k hk => ?_
    · have := (mtI_blk B L b hb (bg rows b).toNat (by omega) (by omega)).1
      simp [this]
    · obtain ⟨b', h1, h2, h3⟩ := blk_ex B (k : Int) (by omega) (by omega)
      have := (mtI_blk B L b' h1 k h2 h3).1
      simp only [this, decide_eq_false_iff_not]
      intro z
      have z : b' = b := by omega
      subst z
      omega
  have lg := lcGo_filter (vs := [2]) (t := .nm 2) (c := (tstB (eBin (eqW false) (eBin ixW (eBin ixW (eVar 0) (eVar 2)) (eCst (.int 2))) (eVar 1)))) (e := eVar 2) (ρ := [some (.val (.lst ((metresL 0 rows).map metP))), some (.val (.int b)), none]) (S := []) (fun k : Nat => P.int (0 + (k : Int))) (fun k => decide ((mtI rows k).2.2 = (b : Int))) (fun k : Nat => P.int k) (xs := List.range (nM rows)) (by
    intro k hk
    have e := mtI_ok (rows := rows) k (List.mem_range.mp hk)
    refine ⟨_, bindT_nm _ _ _, ?_, fun _ => ?_⟩
    · simp (disch := omega) [e, metP]
    · simp)
  have hr : rngOk 0 ((metresL 0 rows).length : Int) = true := rngOk_of (by omega) (by omega) (by omega) (by show (nM rows : Int) < _; omega)
  have hr2 : (rngP 0 ((metresL 0 rows).length)).length ≤ 100000 := by rw [rngP_len]; show nM rows ≤ _; omega
  have hr3 : (metresL 0 rows).length ≤ 100000 := by show nM rows ≤ _; omega
  rw [← rngP_eq] at lg
  have nn : nM rows = (metresL 0 rows).length := rfl
  rw [nn] at lg ff
  simp [m_l_first_of, runP_ap, envOf_ap, hr, hr3, lg, ff]
  omega
theorem brof_ok {rows : List Seg} (B : Blks rows) (L : Lay rows) (b : Nat) (hb : b < nBr rows) : m_l_brake_of [.lst ((metresL 0 rows).map metP), .int b] = .ok (.int (bk rows b)) := by
  have q := B.le b hb
  have hle := nM_le L
  have ff : atI ((List.range (nM rows)).filter fun k => decide ((mtI rows k).2.2 = (b : Int)) && decide ((mtI rows k).1 = ("brake" : Str))) 0 = some (bk rows b).toNat := by
    refine filter_first (by omega) ?_ fun k hk => ?_
    · have := (mtI_blk B L b hb (bk rows b).toNat (by omega) (by omega))
      have h2 := this.2.mpr (by omega)
      simp [this.1, h2]
    · obtain ⟨b', h1, h2, h3⟩ := blk_ex B (k : Int) (by omega) (by omega)
      have := (mtI_blk B L b' h1 k h2 h3)
      simp only [this, Bool.and_eq_false_imp, decide_eq_true_eq, decide_eq_false_iff_not]
      intro z w
      have z : b' = b := by omega
      subst z
      omega
  have lg := lcGo_filter (vs := [2]) (t := .nm 2) (c := (tAndB (tstB (eBin (eqW false) (eBin ixW (eBin ixW (eVar 0) (eVar 2)) (eCst (.int 2))) (eVar 1))) (tstB (eBin (eqW false) (eBin ixW (eBin ixW (eVar 0) (eVar 2)) (eCst (.int 0))) (eCst (.str "brake")))))) (e := eVar 2) (ρ := [some (.val (.lst ((metresL 0 rows).map metP))), some (.val (.int b)), none]) (S := []) (fun k : Nat => P.int (0 + (k : Int))) (fun k => decide ((mtI rows k).2.2 = (b : Int)) && decide ((mtI rows k).1 = ("brake" : Str))) (fun k : Nat => P.int k) (xs := List.range (nM rows)) (by
    intro k hk
    have e := mtI_ok (rows := rows) k (List.mem_range.mp hk)
    refine ⟨_, bindT_nm _ _ _, ?_, fun _ => ?_⟩
    · by_cases h : (mtI rows k).2.2 = (b : Int) <;> simp (disch := omega) [e, metP, h]
    · simp)
  have hr : rngOk 0 ((metresL 0 rows).length : Int) = true := rngOk_of (by omega) (by omega) (by omega) (by show (nM rows : Int) < _; omega)
  have hr3 : (metresL 0 rows).length ≤ 100000 := by show nM rows ≤ _; omega
  rw [← rngP_eq] at lg
  have nn : nM rows = (metresL 0 rows).length := rfl
  rw [nn] at lg ff
  simp [m_l_brake_of, runP_ap, envOf_ap, hr, hr3, lg, ff]
  omega
/-! the energies at an index -/
theorem flat_get {f : Nat → List Int} {s : Nat → Int} {m : Nat} (hs : ∀ k, k ≤ m → (((List.range k).flatMap f).length : Int) = s k) (b : Nat) (hb : b < m) (j : Nat) (hj : j < (f b).length) : gi ((List.range m).flatMap f) (s b + j) = gi (f b) j := by
  obtain ⟨r, rfl⟩ : ∃ r, m = b + (r + 1) := ⟨m - b - 1, by omega⟩
  have h := hs b (by omega)
  unfold gi
  have e : (s b + (j : Int)).toNat = ((List.range b).flatMap f).length + j := by omega
  rw [e, List.range_add, List.flatMap_append, List.range_succ_eq_map, List.map_cons, List.flatMap_cons, List.getD_eq_getElem?_getD, List.getElem?_append_right (by omega), Nat.add_sub_cancel_left, List.getElem?_append_left (by simpa using hj)]
  simp [List.getD_eq_getElem?_getD]
theorem leL_at {rows : List Seg} (B : Blks rows) (t : Tr) (b : Nat) (hb : b < nBr rows) (i : Int) (h1 : bg rows b ≤ i) (h2 : i < bg rows (b + 1)) : gi (leL rows t) i = itE (metresL 0 rows) t t.f1 (bg rows b) t.drive (i - bg rows b).toNat := by
  have q := B.le b hb
  have := flat_get (f := leB rows t) (s := bg rows) (m := nBr rows) (leB_len B t) b hb (i - bg rows b).toNat (by simp [leB, cnt]; omega)
  rw [show bg rows b + ((i - bg rows b).toNat : Int) = i by omega] at this
  unfold leL
  rw [this, gi_nat]
  have hc : (i - bg rows b).toNat < cnt rows b := by unfold cnt; omega
  simp [gi_nat, leB, List.getD_eq_getElem?_getD, hc]
theorem enL_at {rows : List Seg} (B : Blks rows) (t : Tr) (b : Nat) (hb : b < nBr rows) (i : Int) (h1 : bg rows b ≤ i) (h2 : i < bg rows (b + 1)) : gi (enL rows t) i = evS (metresL 0 rows) t (bg rows (b + 1)) (bg rows (b + 1) - i).toNat := by
  have q := B.le b hb
  have := flat_get (f := fun b => (enB rows t b).reverse) (s := bg rows) (m := nBr rows) (enL_len B t) b hb (i - bg rows b).toNat (by simp [enB, cnt]; omega)
  rw [show bg rows b + ((i - bg rows b).toNat : Int) = i by omega] at this
  unfold enL
  rw [this, gi_nat]
  have hc : (i - bg rows b).toNat < cnt rows b := by unfold cnt; omega
  have hc2 : cnt rows b - 1 - (i - bg rows b).toNat < cnt rows b := by omega
  have hc3 : cnt rows b - 1 - (i - bg rows b).toNat + 1 = (bg rows (b + 1) - i).toNat := by unfold cnt; omega
  simp [gi_nat, enB, List.getD_eq_getElem?_getD, List.getElem?_reverse, hc, hc2, hc3]
theorem le_start {rows : List Seg} (B : Blks rows) (t : Tr) (b : Nat) (hb : b < nBr rows) : gi (leL rows t) (bg rows b) = t.drive := by
  have q := B.le b hb
  rw [leL_at B t b hb _ (Int.le_refl _) (by omega)]
  simp [itE]
theorem le_next {rows : List Seg} (B : Blks rows) (t : Tr) (b : Nat) (hb : b < nBr rows) (i : Nat) (h1 : bg rows b ≤ i) (h2 : (i : Int) + 1 < bg rows (b + 1)) : gi (leL rows t) (i + 1) = aft (mtI rows i) t (gi (leL rows t) i) t.f1 none := by
  have q := B.le b hb
  rw [leL_at B t b hb _ (by omega) h2, leL_at B t b hb _ h1 (by omega), show ((i : Int) + 1 - bg rows b).toNat = ((i : Int) - bg rows b).toNat + 1 by omega, itE]
  congr 1
  unfold atM mtI
  rw [show bg rows b + (((i : Int) - bg rows b).toNat : Int) = i by omega, Int.emod_eq_of_lt (by omega) (by show (i : Int) < (nM rows : Int); omega)]
theorem en_next {rows : List Seg} (B : Blks rows) (t : Tr) (b : Nat) (hb : b < nBr rows) (i : Nat) (h1 : bg rows b ≤ i) (h2 : (i : Int) < bg rows (b + 1)) : gi (enL rows t) i = enb (mtI rows i) t (if (i : Int) + 1 = bg rows (b + 1) then 0 else gi (enL rows t) (i + 1)) := by
  have q := B.le b hb
  have e2 : (if (i : Int) + 1 = bg rows (b + 1) then (0 : Int) else gi (enL rows t) (i + 1)) = evS (metresL 0 rows) t (bg rows (b + 1)) ((bg rows (b + 1) - i).toNat - 1) := by
    split
    · rw [show (bg rows (b + 1) - i).toNat - 1 = 0 by omega]; rfl
    · rw [enL_at B t b hb _ (by omega) (by omega), show (bg rows (b + 1) - ((i : Int) + 1)).toNat = (bg rows (b + 1) - i).toNat - 1 by omega]
  rw [e2, enL_at B t b hb _ h1 h2]
  obtain ⟨j, hj⟩ : ∃ j, (bg rows (b + 1) - (i : Int)).toNat = j + 1 := ⟨(bg rows (b + 1) - (i : Int)).toNat - 1, by omega⟩
  rw [hj, evS]
  congr 1
  unfold atM mtI
  rw [show bg rows (b + 1) - 1 - (j : Int) = i by omega, Int.emod_eq_of_lt (by omega) (by show (i : Int) < (nM rows : Int); omega)]
end Gk15
end
-- part M15c
section
set_option Elab.async false
set_option linter.all false
set_option maxRecDepth 100000
set_option autoImplicit false
namespace Gk15
open PySem PySem.Spec PyProof.Rows L2 Z
/-! the law's own energies -/
theorem take_snoc {xs : List Int} {k : Nat} (h : k < xs.length) : xs.take (k + 1) = xs.take k ++ [gi xs k] := by
  rw [List.take_add_one, List.getElem?_eq_getElem h]
  simp [gi, List.getD_eq_getElem?_getD, h]
def JLl (rows : List Seg) (t : Tr) (k : Nat) (ρ : Z.Env) (S : Store) : Prop := ∃ (e : Int) (o4 : Option W), ρ = [some (.val (.lst ((metresL 0 rows).map metP))), some (.val (datP t)), some (.loc 0), some (.val (.int e)), o4] ∧
  S = [.lst (((leL rows t).take k).map fun i => .val (.int i))] ∧ ∀ b, b < nBr rows → bg rows b < k → (k : Int) < bg rows (b + 1) → e = gi (leL rows t) k
theorem lst_ok {rows : List Seg} (B : Blks rows) (L : Lay rows) (t : Tr) : m_l_least [.lst ((metresL 0 rows).map metP), datP t] = .ok (.lst ((leL rows t).map .int)) := by
  have hle := nM_le L
  have ll := leL_len B t
  have nn : (metresL 0 rows).length = nM rows := rfl
  have hr : rngOk 0 (nM rows : Int) = true := rngOk_of (by omega) (by omega) (by omega) (by omega)
  obtain ⟨_, _, eL, e, o4, rfl, rfl, _⟩ := for_rng (JLl rows t) (t := .nm 4) (body := m_l_least_b1) (lo := 0) (n := nM rows) (by
    rintro k _ _ hk ⟨e, o4, rfl, rfl, he⟩
    obtain ⟨b, hb, h1, h2⟩ := blk_ex B (k : Int) (by omega) (by omega)
    have hk1 := mtI_ok (rows := rows) k hk
    have mk := mtI_blk B L b hb k h1 h2
    have hl : ((leL rows t).take k).length < 100000 := by rw [List.length_take]; omega
    have hk5 : k < 100000 := by omega
    have ts := take_snoc (xs := leL rows t) (k := k) (by omega)
    have key : ((bindR (bindT (.nm 4) (.int (0 + (k : Int))) [some (.val (.lst ((metresL 0 rows).map metP))), some (.val (datP t)), some (.loc 0), some (.val (.int e)), o4]) [.lst (((leL rows t).take k).map fun i => .val (.int i))]).seq m_l_least_b1) =
        .nx [some (.val (.lst ((metresL 0 rows).map metP))), some (.val (datP t)), some (.loc 0), some (.val (.int (aft (mtI rows k) t (gi (leL rows t) k) t.f1 none))), some (.val (.int k))] [.lst (((leL rows t).take (k + 1)).map fun i => .val (.int i))] := by
      have ea := after_ok (m := mtI rows k) (t := t) (e := gi (leL rows t) k) (fr := t.f1) (st := none)
      simp only [stP, datP, metP] at ea
      by_cases hz : k = 0
      · have hb0 : (k : Int) = bg rows b := by subst hz; have := B.le b hb; omega
        have es := le_start B t b hb
        rw [← hb0] at es
        rw [es] at ea ts ⊢
        subst hz
        have hk1' : atI (metresL 0 rows) 0 = some (mtI rows 0) := hk1
        have ea' := ea
        simp (disch := omega) [m_l_least_b1, datP, hk1', metP, ea, ts]
      · have hkm := mtI_ok (rows := rows) (k - 1) (by omega)
        rw [show ((k - 1 : Nat) : Int) = (k : Int) - 1 by omega] at hkm
        have hz' : ¬ (k : Int) = 0 := by omega
        by_cases hs : (k : Int) = bg rows b
        · have es := le_start B t b hb
          rw [← hs] at es
          obtain ⟨b', hb', h1', h2'⟩ := blk_ex B ((k : Int) - 1) (by omega) (by omega)
          have mk' := mtI_blk B L b' hb' (k - 1) (by omega) (by omega)
          have hne : ¬ (mtI rows k).2.2 = (mtI rows (k - 1)).2.2 := by
            rw [mk.1, mk'.1]
            intro z
            have z : b = b' := by omega
            subst z
            omega
          rw [es] at ea ts ⊢
          simp (disch := omega) [m_l_least_b1, datP, hk1, hkm, metP, hne, hz', hz, hk5, ea, ts]
        · have mk' := mtI_blk B L b hb (k - 1) (by omega) (by omega)
          have heq : ((mtI rows k).2.2 = (mtI rows (k - 1)).2.2) ↔ True := iff_true_intro (by rw [mk.1, mk'.1])
          have ee := he b hb (by omega) h2
          subst ee
          simp (disch := omega) [m_l_least_b1, datP, hk1, hkm, metP, heq, hz', hz, hk5, ea, ts]
    rw [key]
    refine ⟨_, _, rfl, rfl, fun b' hb' q1 q2 => ?_⟩
    push_cast at q1 q2 ⊢
    rw [le_next B t b' hb' k (by omega) (by omega)]) (ρ := [some (.val (.lst ((metresL 0 rows).map metP))), some (.val (datP t)), some (.loc 0), some (.val (.int t.drive)), none]) (S := [.lst []]) ⟨_, _, rfl, by simp, fun b hb q1 q2 => by have := B.le b hb; omega⟩
  have e2 : (leL rows t).take (nM rows) = leL rows t := List.take_of_length_le (by omega)
  rw [e2] at eL
  have d4 : datP t = .lst [.int t.len, .tup [.int t.f0, .int t.f1], .tup [.int t.b0, .int t.b1], .int t.lift, .int t.drive] := rfl
  rw [d4] at eL ⊢
  simp [m_l_least, runP_ap, envOf_ap, nn, hr, eL]
/-! the greatest energies -/
def itD (ms : List Mt) (t : Tr) (f e : Int) (k : Nat) : List Int := (List.range k).map fun j => itE ms t f 0 e j
theorem itD_succ (ms : List Mt) (t : Tr) (f e : Int) (k : Nat) : itD ms t f e (k + 1) = itD ms t f e k ++ [itE ms t f 0 e k] := by simp [itD, List.range_succ]
def JGr (rows : List Seg) (t : Tr) (T : Store) (e : Int) (o3 : Option W) (k : Nat) (ρ : Z.Env) (S : Store) : Prop := ∃ (o5 : Option W), ρ = [some (.val (.lst ((metresL 0 rows).map metP))), some (.val (datP t)), some (.val (.int (itE (metresL 0 rows) t t.f0 0 e k))), o3, some (.loc T.length), o5] ∧
  S = T ++ [.lst ((itD (metresL 0 rows) t t.f0 e k).map fun i => .val (.int i))]
theorem grb_ok {rows : List Seg} (L : Lay rows) (t : Tr) (T : Store) (e : Int) (o3 o5 : Option W) : ∃ o5', forGo (.nm 5) m_l_greatest_b1 ((metresL 0 rows).map metP) [some (.val (.lst ((metresL 0 rows).map metP))), some (.val (datP t)), some (.val (.int e)), o3, some (.loc T.length), o5] (T ++ [.lst []]) =
    .nx [some (.val (.lst ((metresL 0 rows).map metP))), some (.val (datP t)), some (.val (.int (itE (metresL 0 rows) t t.f0 0 e (nM rows)))), o3, some (.loc T.length), o5'] (T ++ [.lst ((itD (metresL 0 rows) t t.f0 e (nM rows)).map fun i => .val (.int i))]) := by
  have hle := nM_le L
  obtain ⟨_, _, eL, k, hk, _, o5', rfl, rfl⟩ := for_lst metP (fun r ρ S => ∃ k, k + r.length = nM rows ∧ (metresL 0 rows).drop k = r ∧ JGr rows t T e o3 k ρ S) (t := .nm 5) (body := m_l_greatest_b1) (by
    rintro m r _ _ ⟨k, hk, hr, o5, rfl, rfl⟩
    simp only [List.length_cons] at hk
    have hm : (metresL 0 rows)[k]? = some m := by
      have := congrArg (fun l => l[0]?) hr
      simpa using this
    have ha : atM (metresL 0 rows) (0 + (k : Int)) = m := by
      unfold atM
      rw [Int.emod_eq_of_lt (by omega) (by show _ < (nM rows : Int); omega), show (0 : Int) + (k : Int) = k by omega, atI_nn, hm]
      rfl
    have hl : (itD (metresL 0 rows) t t.f0 e k).length < 100000 := by simp [itD]; omega
    have ea := after_ok (m := m) (t := t) (e := itE (metresL 0 rows) t t.f0 0 e k) (fr := t.f0) (st := none)
    simp only [stP, datP, metP] at ea
    have key : ((bindR (bindT (.nm 5) (metP m) [some (.val (.lst ((metresL 0 rows).map metP))), some (.val (datP t)), some (.val (.int (itE (metresL 0 rows) t t.f0 0 e k))), o3, some (.loc T.length), o5]) (T ++ [.lst ((itD (metresL 0 rows) t t.f0 e k).map fun i => .val (.int i))])).seq m_l_greatest_b1) =
        .nx [some (.val (.lst ((metresL 0 rows).map metP))), some (.val (datP t)), some (.val (.int (itE (metresL 0 rows) t t.f0 0 e (k + 1)))), o3, some (.loc T.length), some (.val (metP m))] (T ++ [.lst ((itD (metresL 0 rows) t t.f0 e (k + 1)).map fun i => .val (.int i))]) := by
      rw [itE, ha, itD_succ]
      simp (disch := omega) [m_l_greatest_b1, datP, metP, ea, get_top, set_top, hl]
    rw [key]
    refine ⟨k + 1, by omega, ?_, _, rfl, rfl⟩
    rw [← List.drop_drop, hr]
    rfl) (xs := metresL 0 rows) (ρ := [some (.val (.lst ((metresL 0 rows).map metP))), some (.val (datP t)), some (.val (.int e)), o3, some (.loc T.length), o5]) (S := T ++ [.lst []]) ⟨0, by simp [nM], rfl, _, rfl, rfl⟩
  simp only [List.length_nil, Nat.add_zero] at hk
  subst hk
  exact ⟨o5', eL⟩
theorem gre_ok {rows : List Seg} (L : Lay rows) (t : Tr) : m_l_greatest [.lst ((metresL 0 rows).map metP), datP t] = .ok (.lst ((grL rows t).map .int)) := by
  have hle := nM_le L
  obtain ⟨o1, e1⟩ := grb_ok L t [] t.drive (some (.val (.int 0))) none
  obtain ⟨o2, e2⟩ := grb_ok L t [.lst ((itD (metresL 0 rows) t t.f0 t.drive (nM rows)).map fun i => .val (.int i))] (firstE rows t) (some (.val (.int 1))) o1
  have ef : itE (metresL 0 rows) t t.f0 0 t.drive (nM rows) = firstE rows t := rfl
  have eg : itD (metresL 0 rows) t t.f0 (firstE rows t) (nM rows) = grL rows t := rfl
  rw [ef] at e1
  rw [eg] at e2
  simp only [List.nil_append, List.cons_append, List.length_nil, List.length_cons, Nat.zero_add] at e1 e2
  have hr2 : rngP 0 2 = [.int 0, .int 1] := rfl
  have ht : rngOk 0 2 = true := rfl
  have d4 : datP t = .lst [.int t.len, .tup [.int t.f0, .int t.f1], .tup [.int t.b0, .int t.b1], .int t.lift, .int t.drive] := rfl
  rw [d4] at e1 e2 ⊢
  simp [m_l_greatest, runP_ap, envOf_ap, ht, hr2, forGo_cons, m_l_greatest_b2, e1, e2]
end Gk15
end
-- part M15d
section
set_option Elab.async false
set_option linter.all false
set_option maxRecDepth 100000
set_option autoImplicit false
namespace Gk15
open PySem PySem.Spec PyProof.Rows L2 Z
/-! the law's own roots and times -/
def JRt (n : Int) (k : Nat) (ρ : Z.Env) (S : Store) : Prop := ∃ (lo hi : Int) (o3 o4 : Option W), ρ = [some (.val (.int n)), some (.val (.int lo)), some (.val (.int hi)), o3, o4] ∧ S = [] ∧
  0 ≤ lo ∧ lo < hi ∧ hi ≤ n + 1 ∧ lo * lo ≤ n ∧ n < hi * hi ∧ hi - lo ≤ (2 ^ (60 - k) : Nat)
theorem lroot_ok (n : Int) (h0 : 0 ≤ n) (hn : n < 1000000000000000000) : m_l_root [.int n] = .ok (.int (rt n)) := by
  have hr : rngOk 0 200 = true := rfl
  obtain ⟨_, _, eL, lo, hi, o3, o4, rfl, rfl, a1, a2, a3, a4, a5, a6⟩ := for_rng (JRt n) (t := .nm 3) (body := m_l_root_b1) (lo := 0) (n := 200) (by
    rintro k _ _ hk ⟨lo, hi, o3, o4, rfl, rfl, a1, a2, a3, a4, a5, a6⟩
    by_cases hd : hi - lo > 1
    · have hk6 : k < 60 := by
        rcases Nat.lt_or_ge k 60 with q | q
        · exact q
        · rw [show 60 - k = 0 by omega] at a6
          simp at a6
          omega
      have hp : (2 ^ (60 - k) : Nat) = 2 * 2 ^ (60 - (k + 1)) := by
        rw [show 60 - k = (60 - (k + 1)) + 1 by omega, Nat.pow_succ]; omega
      rw [hp] at a6
      have m1 : lo < (lo + hi) / 2 := by omega
      have m2 : (lo + hi) / 2 < hi := by omega
      have hd' : 1 < hi - lo := hd
      by_cases hc : (lo + hi) / 2 * ((lo + hi) / 2) ≤ n
      · have : ((bindR (bindT (.nm 3) (.int (0 + (k : Int))) [some (.val (.int n)), some (.val (.int lo)), some (.val (.int hi)), o3, o4]) []).seq m_l_root_b1) = .nx [some (.val (.int n)), some (.val (.int ((lo + hi) / 2))), some (.val (.int hi)), some (.val (.int k)), some (.val (.int ((lo + hi) / 2)))] [] := by
          simp (disch := omega) [m_l_root_b1, hd', mulOk_c, hc]
        rw [this]
        exact ⟨_, _, _, _, rfl, rfl, by omega, m2, a3, hc, a5, by omega⟩
      · have : ((bindR (bindT (.nm 3) (.int (0 + (k : Int))) [some (.val (.int n)), some (.val (.int lo)), some (.val (.int hi)), o3, o4]) []).seq m_l_root_b1) = .nx [some (.val (.int n)), some (.val (.int lo)), some (.val (.int ((lo + hi) / 2))), some (.val (.int k)), some (.val (.int ((lo + hi) / 2)))] [] := by
          simp (disch := omega) [m_l_root_b1, hd', mulOk_c, hc]
        rw [this]
        exact ⟨_, _, _, _, rfl, rfl, a1, m1, by omega, a4, by omega, by omega⟩
    · have hd' : ¬ 1 < hi - lo := by omega
      have : ((bindR (bindT (.nm 3) (.int (0 + (k : Int))) [some (.val (.int n)), some (.val (.int lo)), some (.val (.int hi)), o3, o4]) []).seq m_l_root_b1) = .nx [some (.val (.int n)), some (.val (.int lo)), some (.val (.int hi)), some (.val (.int k)), o4] [] := by
        simp (disch := omega) [m_l_root_b1, hd']
      rw [this]
      refine ⟨_, _, _, _, rfl, rfl, a1, a2, a3, a4, a5, ?_⟩
      have : 1 ≤ 2 ^ (60 - (k + 1)) := Nat.one_le_two_pow
      omega) (ρ := [some (.val (.int n)), some (.val (.int 0)), some (.val (.int (n + 1))), none, none]) (S := []) ⟨_, _, _, _, rfl, rfl, by omega, by omega, by omega, by omega, by
        have := Int.mul_le_mul (a := 1) (b := n + 1) (c := n + 1) (d := n + 1) (by omega) (by omega) (by omega) (by omega)
        omega, by
        have : (2 ^ (60 - 0) : Nat) = 1152921504606846976 := by decide
        omega⟩
  have h1 : hi = lo + 1 := by simp at a6; omega
  subst h1
  have e : rt n = lo := rt_is ⟨a1, a4, a5⟩
  rw [e]
  simp [m_l_root, runP_ap, envOf_ap, hr, eL]
theorem lru {n : Int} (h0 : 0 ≤ n) (hn : n < 1000000000000000000) : ru n = if rt n * rt n < n then rt n + 1 else rt n := by
  obtain ⟨⟨a, b, c⟩, _⟩ := rt_ok n h0 hn
  unfold ru
  split <;> split <;> omega
theorem ceil_eq (x : Int) (h : 1 ≤ x) : (100000000 + x - 1) / x = -(-100000000 / x) := by
  have e := Int.mul_ediv_add_emod (-100000000) x
  have r0 := Int.emod_nonneg (-100000000) (b := x) (by omega)
  have r1 := Int.emod_lt_of_pos (-100000000) (b := x) (by omega)
  have e2 : (100000000 + x - 1 : Int) = (x - 1 - -100000000 % x) + x * (-(-100000000 / x)) := by
    rw [Int.mul_neg]; omega
  rw [e2, Int.add_mul_ediv_left _ _ (by omega), Int.ediv_eq_zero_of_lt (by omega) (by omega), Int.zero_add]
theorem ltimes_ok (lo hi : Int) (h1 : 1 ≤ lo) (h2 : lo ≤ hi) (h3 : hi < 1000000000000000000) : m_l_times [.int lo, .int hi] = .ok (.tup [.int (tmA hi), .int (tmB lo)]) := by
  have e1 := lroot_ok hi (by omega) h3
  have e2 := lroot_ok lo (by omega) (by omega)
  have u := ru_pos (n := hi) (by omega) h3
  have hu := lru (n := hi) (by omega) h3
  have p1 := rt_pos (n := lo) h1 (by omega)
  have p2 := rt_lt (n := lo) (by omega) (by omega)
  have p3 := rt_pos (n := hi) (by omega) h3
  have p4 := rt_lt (n := hi) (by omega) h3
  have c := ceil_eq (rt lo) p1
  unfold tmA tmB
  by_cases h : rt hi * rt hi < hi
  · rw [if_pos h] at hu
    rw [hu, ← c]
    have q1 : 0 < rt hi + 1 := by omega
    have q2 : rt hi + 1 < 18446744073709551616 := by omega
    have q3 : 0 < rt lo := by omega
    have q4 : rt lo < 18446744073709551616 := by omega
    simp (disch := omega) [m_l_times, runP_ap, envOf_ap, e1, e2, mulOk_c, h, q1, q2, q3, q4]
  · rw [if_neg h] at hu
    rw [hu, ← c]
    have q1 : 0 < rt hi := by omega
    have q2 : rt hi < 18446744073709551616 := by omega
    have q3 : 0 < rt lo := by omega
    have q4 : rt lo < 18446744073709551616 := by omega
    simp (disch := omega) [m_l_times, runP_ap, envOf_ap, e1, e2, mulOk_c, h, q1, q2, q3, q4]
/-! sums of times -/
theorem in_ints (x : Int) (xs : List Int) : inP (.int x) (.lst (xs.map .int)) = some (decide (x ∈ xs)) := by
  have h : (xs.map P.int).all flatP = true := by simp
  rw [inP_lst, h]
  simp only [flatP_int, Bool.and_self, if_true, List.any_map]
  congr 1
  rw [Bool.eq_iff_iff]
  simp
theorem cut_mem {xs : List Int} {i j : Int} (h0 : 0 ≤ i) (h1 : i ≤ j) (h2 : j ≤ xs.length) (x : Int) : x ∈ cutA xs (some i) (some j) ↔ ∃ k, i ≤ k ∧ k < j ∧ gi xs k = x := by
  rw [cut_range xs i j h0 h1 h2]
  constructor
  · intro h
    obtain ⟨k, hk, e⟩ := List.mem_iff_getElem.mp h
    rw [List.length_take, List.length_drop] at hk
    refine ⟨i + k, by omega, by omega, ?_⟩
    rw [← e, List.getElem_take, List.getElem_drop]
    have : i.toNat + k < xs.length := by omega
    simp [gi, show (i + (k : Int)).toNat = i.toNat + k by omega, List.getD_eq_getElem?_getD, this]
  · rintro ⟨k, k1, k2, rfl⟩
    refine List.mem_iff_getElem.mpr ⟨(k - i).toNat, by rw [List.length_take, List.length_drop]; omega, ?_⟩
    rw [List.getElem_take, List.getElem_drop]
    have : k.toNat < xs.length := by omega
    simp [gi, List.getD_eq_getElem?_getD, this, show i.toNat + (k - i).toNat = k.toNat by omega]
theorem zer_in {rows : List Seg} (B : Blks rows) (t : Tr) (b : Nat) (hb : b < nBr rows) : (0 ∈ cutA (leL rows t) (some (bg rows b)) (some (bk rows b + 1))) ↔ zer rows t b := by
  have q := B.le b hb
  have ll := leL_len B t
  rw [cut_mem (by omega) (by omega) (by omega)]
  exact Iff.rfl
def JSt (rows : List Seg) (t : Tr) (b : Nat) (first behind : Int) (k : Nat) (ρ : Z.Env) (S : Store) : Prop := ∃ (o9 o10 o11 : Option W),
  ρ = [some (.val (.lst ((metresL 0 rows).map metP))), some (.val (datP t)), some (.val (.int b)), some (.val (.int first)), some (.val (.int behind)), some (.val (.lst ((leL rows t).map .int))), some (.val (.lst ((grL rows t).map .int))), some (.val (.int (sm (tA rows t) first k))), some (.val (.int (sm (tB rows t) first k))), o9, o10, o11] ∧ S = []
theorem st_ok {rows : List Seg} (B : Blks rows) (L : Lay rows) {t : Tr} (ht : TrOk t) (b : Nat) (hb : b < nBr rows) (first behind : Int) (h0 : bg rows b ≤ first) (h1 : behind ≤ bk rows b) (h01 : first ≤ behind) :
    (zer rows t b → m_l_sum_times [.lst ((metresL 0 rows).map metP), datP t, .int b, .int first, .int behind] = .ok .non) ∧
    (¬ zer rows t b → m_l_sum_times [.lst ((metresL 0 rows).map metP), datP t, .int b, .int first, .int behind] = .ok (.tup [.int (sm (tA rows t) first (behind - first).toNat), .int (sm (tB rows t) first (behind - first).toNat)])) := by
  have q := B.le b hb
  have hle := nM_le L
  have b1 := first_ok B L b hb
  have b2 := brof_ok B L b hb
  have g := gre_ok L t
  have l := lst_ok B L t
  have zi := zer_in B t b hb
  have lg := grL_len rows t
  have ll := leL_len B t
  have ert : rngOk first behind = true := rngOk_of (by omega) (by omega) (by omega) (by omega)
  refine ⟨fun z => ?_, fun z => ?_⟩
  · have z' := zi.mpr z
    simp [m_l_sum_times, runP_ap, envOf_ap, b1, b2, g, l, cutA_map, in_ints, z']
  · have z' : ¬ 0 ∈ cutA (leL rows t) (some (bg rows b)) (some (bk rows b + 1)) := fun w => z (zi.mp w)
    obtain ⟨_, _, eL, o9, o10, o11, rfl, rfl⟩ := for_rng (JSt rows t b first behind) (t := .nm 9) (body := m_l_sum_times_b1) (lo := first) (n := (behind - first).toNat) (by
      rintro k _ _ hk ⟨o9, o10, o11, rfl, rfl⟩
      have e1 := atI_gi (xs := leL rows t) (i := first + k) (by omega) (by omega)
      have e2 := atI_gi (xs := leL rows t) (i := first + k + 1) (by omega) (by omega)
      have e3 := atI_gi (xs := grL rows t) (i := first + k) (by omega) (by omega)
      have e4 := atI_gi (xs := grL rows t) (i := first + k + 1) (by omega) (by omega)
      have p1 := mins_pos ht z (first + k) (by omega) (by omega)
      have p2 := mins_pos ht z (first + k + 1) (by omega) (by omega)
      have g1 := le_gr_i B L ht (first + k)
      have g2 := le_gr_i B L ht (first + k + 1)
      have g3 := (gr_b L ht (first + k)).2
      have g4 := (gr_b L ht (first + k + 1)).2
      have mt := ltimes_ok (mn (gi (leL rows t) (first + k)) (gi (leL rows t) (first + k + 1))) (mx (gi (grL rows t) (first + k)) (gi (grL rows t) (first + k + 1))) (by unfold mn; split <;> omega) (by unfold mn mx; split <;> split <;> omega) (by unfold mx; split <;> omega)
      unfold mn mx at mt
      simp (disch := omega) [m_l_sum_times_b1, e1, e2, e3, e4, mt]
      exact ⟨_, _, _, rfl, rfl⟩) (ρ := [some (.val (.lst ((metresL 0 rows).map metP))), some (.val (datP t)), some (.val (.int b)), some (.val (.int first)), some (.val (.int behind)), some (.val (.lst ((leL rows t).map .int))), some (.val (.lst ((grL rows t).map .int))), some (.val (.int 0)), some (.val (.int 0)), none, none, none]) (S := []) ⟨_, _, _, rfl, rfl⟩
    simp [m_l_sum_times, runP_ap, envOf_ap, b1, b2, g, l, cutA_map, in_ints, z', ert, eL]
end Gk15
end
-- part M15e
section
set_option Elab.async false
set_option linter.all false
set_option maxRecDepth 100000
set_option autoImplicit false
namespace Gk15
open PySem PySem.Spec PyProof.Rows L2 Z
/-! the law's own envelope -/
theorem drop_cons' {xs : List Int} {k : Nat} (h : k < xs.length) : xs.drop k = gi xs k :: xs.drop (k + 1) := by
  rw [gi_nat, List.getD_eq_getElem?_getD, List.getElem?_eq_getElem h, Option.getD_some]
  exact List.drop_eq_getElem_cons h
def JEv (rows : List Seg) (t : Tr) (k : Nat) (ρ : Z.Env) (S : Store) : Prop := ∃ (e : Int) (o4 o5 o6 o7 o8 : Option W), ρ = [some (.val (.lst ((metresL 0 rows).map metP))), some (.val (datP t)), some (.loc 0), some (.val (.int e)), o4, o5, o6, o7, o8] ∧
  S = [.lst (((enL rows t).drop (nM rows - k)).map fun i => .val (.int i))] ∧ (0 < k → e = gi (enL rows t) (nM rows - k : Nat))
theorem lenv_ok {rows : List Seg} (B : Blks rows) (L : Lay rows) (t : Tr) : m_l_envelope [.lst ((metresL 0 rows).map metP), datP t] = .ok (.lst ((enL rows t).map .int)) := by
  have hle := nM_le L
  have ll := enL_len' B t
  have nn : (metresL 0 rows).length = nM rows := rfl
  have hr : rngOk ((nM rows : Int) - 1) (-1) = true := rngOk_of (by omega) (by omega) (by omega) (by omega)
  have d4 : datP t = .lst [.int t.len, .tup [.int t.f0, .int t.f1], .tup [.int t.b0, .int t.b1], .int t.lift, .int t.drive] := rfl
  obtain ⟨_, _, eL, e, o4, o5, o6, o7, o8, rfl, rfl, _⟩ := for_idx (fun k : Nat => P.int ((nM rows : Int) - 1 + (k : Nat) * (-1))) (JEv rows t) (t := .nm 4) (body := m_l_envelope_b1) (n := nM rows) (by
    rintro k _ _ hk ⟨e, o4, o5, o6, o7, o8, rfl, rfl, he⟩
    obtain ⟨i, hi⟩ : ∃ i : Nat, i = nM rows - (k + 1) := ⟨_, rfl⟩
    have hii : (nM rows : Int) - 1 + (k : Nat) * (-1) = (i : Int) := by omega
    obtain ⟨b, hb, h1, h2⟩ := blk_ex B (i : Int) (by omega) (by omega)
    have hk1 := mtI_ok (rows := rows) i (by omega)
    have mk := mtI_blk B L b hb i h1 h2
    have en := en_next B t b hb i h1 h2
    have hl : ((enL rows t).drop (nM rows - k)).length < 100000 := by rw [List.length_drop]; omega
    have hl2 : (enL rows t).length - (nM rows - k) < 100000 := by omega
    have ts := drop_cons' (xs := enL rows t) (k := i) (by omega)
    rw [show i + 1 = nM rows - k by omega] at ts
    have key : ∃ e', e' = gi (enL rows t) (i : Nat) ∧ ∃ o8', ((bindR (bindT (.nm 4) (.int ((nM rows : Int) - 1 + (k : Nat) * (-1))) [some (.val (.lst ((metresL 0 rows).map metP))), some (.val (datP t)), some (.loc 0), some (.val (.int e)), o4, o5, o6, o7, o8]) [.lst (((enL rows t).drop (nM rows - k)).map fun i => .val (.int i))]).seq m_l_envelope_b1) =
        .nx [some (.val (.lst ((metresL 0 rows).map metP))), some (.val (datP t)), some (.loc 0), some (.val (.int e')), some (.val (.int (i : Nat))), some (.val (.str (mtI rows i).1)), some (.val (.int (mtI rows i).2.1)), some (.val (.int (mtI rows i).2.2)), o8'] [.lst (((enL rows t).drop (nM rows - (k + 1))).map fun i => .val (.int i))] := by
      rw [hii, ← hi, ts]
      generalize hf : (if (i : Int) + 1 = bg rows (b + 1) then (0 : Int) else gi (enL rows t) (i + 1)) = f at en
      have body : ∀ (S : Store) (o4' o5' o6' o7' : Option W), S = [.lst (((enL rows t).drop (nM rows - k)).map fun i => .val (.int i))] → ∃ o8', (sSeq (sAsg 8 (eBin addW (eBin mulW (eCst (.int 1962)) (eVar 6)) (eBin ixW (eBin ixW (eVar 1) (eCst (.int 1))) (eCst (.int 0)))))
  (sSeq (sIf (tstB (eBin (eqW false) (eVar 5) (eCst (.str "lift")))) (sIf (tAndB (tstB (eBin leW (eBin ixW (eVar 1) (eCst (.int 3))) (eVar 3))) (tstB (eBin geW (eBin addW (eVar 3) (eVar 8)) (eCst (.int 0))))) (sAsg 3 (eBin addW (eVar 3) (eVar 8))) (sAsg 3 (eUn negW (eCst (.int 1))))) (sAsg 3 (eCB max2W (aCons (eCst (.int 0)) (aCons (eBin addW (eBin addW (eCB max2W (aCons (eCst (.int 0)) (aCons (eVar 3) aNil))) (eVar 8)) (eBin ixW (eLstP (aCons (eCst (.int 0)) (aCons (eBin ixW (eBin ixW (eVar 1) (eCst (.int 2))) (eCst (.int 0))) aNil))) (eCB intW (aCons (eBin (eqW false) (eVar 5) (eCst (.str "brake"))) aNil)))) aNil)))))
  (sExpr (eBM "list" insertW (eVar 2) (aCons (eCst (.int 0)) (aCons (eVar 3) aNil)))))) [some (.val (.lst ((metresL 0 rows).map metP))), some (.val (datP t)), some (.loc 0), some (.val (.int f)), some (.val (.int (i : Nat))), some (.val (.str (mtI rows i).1)), some (.val (.int (mtI rows i).2.1)), some (.val (.int (mtI rows i).2.2)), o7'] S =
        .nx [some (.val (.lst ((metresL 0 rows).map metP))), some (.val (datP t)), some (.loc 0), some (.val (.int (gi (enL rows t) (i : Nat)))), some (.val (.int (i : Nat))), some (.val (.str (mtI rows i).1)), some (.val (.int (mtI rows i).2.1)), some (.val (.int (mtI rows i).2.2)), o8'] [.lst ((gi (enL rows t) (i : Nat) :: (enL rows t).drop (nM rows - k)).map fun i => .val (.int i))] := by
        rintro S o4' o5' o6' o7' rfl
        refine ⟨some (.val (.int (1962 * (mtI rows i).2.1 + t.f0))), ?_⟩
        rw [en]
        unfold enb mx
        by_cases c1 : (mtI rows i).1 = ("lift" : Str)
        · by_cases c2 : t.lift ≤ f
          · by_cases c3 : 0 ≤ f + (1962 * (mtI rows i).2.1 + t.f0)
            · simp (disch := omega) [datP, c1, c2, c3, mulOk_d, hl2]
            · simp (disch := omega) [datP, c1, c2, c3, mulOk_d, hl2]
          · simp (disch := omega) [datP, c1, c2, mulOk_d, hl2]
        · by_cases c2 : (mtI rows i).1 = ("brake" : Str)
          · simp (disch := omega) [datP, c1, c2, mulOk_d, hl2, Int.add_assoc]
          · simp (disch := omega) [datP, c1, c2, mulOk_d, hl2, Int.add_assoc]
      refine ⟨_, rfl, ?_⟩
      by_cases hz : i + 1 = nM rows
      · have hz' : ((i : Int) = (nM rows : Int) - 1) ↔ True := iff_true_intro (by omega)
        have fe : f = 0 := by
          have : bg rows (b + 1) = nM rows := by have := B.le b hb; omega
          rw [← hf, if_pos (by omega)]
        subst fe
        obtain ⟨o8', eb⟩ := body _ none none none o8 rfl
        refine ⟨o8', ?_⟩
        rw [← eb]
        simp (disch := omega) [m_l_envelope_b1, hk1, metP, nn, hz']
      · have hz' : ¬ (i : Int) = (nM rows : Int) - 1 := by omega
        have hk2 := mtI_ok (rows := rows) (i + 1) (by omega)
        rw [show ((i + 1 : Nat) : Int) = (i : Int) + 1 by omega] at hk2
        have ee := he (by omega)
        rw [show nM rows - k = i + 1 by omega] at ee
        obtain ⟨b', hb', h1', h2'⟩ := blk_ex B ((i : Int) + 1) (by omega) (by omega)
        have mk' := mtI_blk B L b' hb' (i + 1) (by omega) (by omega)
        by_cases hs : (i : Int) + 1 = bg rows (b + 1)
        · have fe : f = 0 := by rw [← hf, if_pos hs]
          subst fe
          have hne : ¬ (mtI rows (i + 1)).2.2 = (mtI rows i).2.2 := by
            rw [mk.1, mk'.1]
            intro z
            have z : b' = b := by omega
            subst z
            omega
          obtain ⟨o8', eb⟩ := body _ none none none o8 rfl
          refine ⟨o8', ?_⟩
          rw [← eb]
          simp (disch := omega) [m_l_envelope_b1, hk1, hk2, metP, nn, hz', hne]
        · have fe : f = e := by rw [← hf, if_neg hs, ee]; rfl
          subst fe
          have heq : ((mtI rows (i + 1)).2.2 = (mtI rows i).2.2) ↔ True := iff_true_intro (by
            have q2 := mtI_blk B L b hb (i + 1) (by omega) (by omega)
            rw [q2.1, mk.1])
          obtain ⟨o8', eb⟩ := body _ none none none o8 rfl
          refine ⟨o8', ?_⟩
          rw [← eb]
          simp (disch := omega) [m_l_envelope_b1, hk1, hk2, metP, nn, hz', heq]
    obtain ⟨e', he', o8', key⟩ := key
    rw [key]
    refine ⟨_, _, _, _, _, _, rfl, rfl, fun _ => ?_⟩
    rw [he', hi]) (ρ := [some (.val (.lst ((metresL 0 rows).map metP))), some (.val (datP t)), some (.loc 0), some (.val (.int 0)), none, none, none, none, none]) (S := [.lst []]) ⟨_, _, _, _, _, _, rfl, by simp; omega, fun h => by omega⟩
  have e2 : (enL rows t).drop (nM rows - nM rows) = enL rows t := by simp
  rw [e2] at eL
  have er : rngD ((nM rows : Int) - 1) (nM rows) = (List.range (nM rows)).map fun k : Nat => P.int ((nM rows : Int) - 1 + (k : Nat) * (-1)) := rfl
  rw [← er, d4] at eL
  rw [d4]
  have e3 : ((nM rows : Int) - 1 - -1).toNat = nM rows := by omega
  simp [m_l_envelope, runP_ap, envOf_ap, nn, hr, e3, eL]
end Gk15
end
-- part M15f
section
set_option Elab.async false
set_option linter.all false
set_option maxRecDepth 100000
set_option autoImplicit false
namespace Gk15
open PySem PySem.Spec PyProof.Rows L2 Z
theorem last_blk {rows : List Seg} (B : Blks rows) (L : Lay rows) : ∃ mt, atI (metresL 0 rows) (-1) = some mt ∧ mt.2.2 + 1 = (nBr rows : Int) := by
  have hp := nM_pos B L
  have n1 := L.n1
  have q := B.le (nBr rows - 1) (by omega)
  have e : nBr rows - 1 + 1 = nBr rows := by omega
  rw [e, B.last] at q
  have m := mtI_blk B L (nBr rows - 1) (by omega) (nM rows - 1) (by omega) (by rw [e, B.last]; omega)
  have o := mtI_ok (rows := rows) (nM rows - 1) (by omega)
  refine ⟨mtI rows (nM rows - 1), ?_, by rw [m.1]; omega⟩
  have hne : metresL 0 rows ≠ [] := fun h => by rw [nM, h] at hp; simp at hp
  rw [atI_nn] at o
  rw [← List.dropLast_concat_getLast hne, atI_snoc, ← o, List.getLast_eq_getElem]
  rw [List.getElem?_eq_getElem (by show nM rows - 1 < (metresL 0 rows).length; show nM rows - 1 < nM rows; omega)]
  rfl
/-! faults, told by the law -/
def JLf (rows : List Seg) (t : Tr) (k : Nat) (ρ : Z.Env) (S : Store) : Prop := ∃ (fs : List P) (o6 o7 o8 : Option W),
  ρ = [some (.val (.lst ((metresL 0 rows).map metP))), some (.val (datP t)), some (.val (.lst ((leL rows t).map .int))), some (.val (.lst ((grL rows t).map .int))), some (.val (.lst ((enL rows t).map .int))), some (.loc 0), o6, o7, o8] ∧
  S = [.lst (fs.map .val)] ∧ fs.length ≤ 3 * k ∧ (fs = [] ↔ ∀ b, b < k → good rows t b)
theorem lfaults_ok {rows : List Seg} (B : Blks rows) (L : Lay rows) {t : Tr} (ht : TrOk t) : ∃ fs : List P, m_l_faults [.lst ((metresL 0 rows).map metP), datP t] = .ok (.lst fs) ∧ (fs = [] ↔ ∀ b, b < nBr rows → good rows t b) := by
  have hn2 := L.n2
  have hle := nM_le L
  have lg := grL_len rows t
  have ll := leL_len B t
  have le := enL_len' B t
  obtain ⟨_, _, eL, fs, o6, o7, o8, rfl, rfl, hl, hf⟩ := for_rng (JLf rows t) (t := .nm 6) (body := m_l_faults_b1) (lo := 0) (n := nBr rows) (by
    intro k ρ S hk hJ
    unfold JLf at hJ
    obtain ⟨fs, o6, o7, o8, hρ, hS, hl, hf⟩ := hJ
    subst hρ hS
    have q := B.le k hk
    have b1 := first_ok B L k hk
    have b2 := brof_ok B L k hk
    have e1 := atI_gi (xs := grL rows t) (i := bk rows k) (by omega) (by omega)
    have e2 := atI_gi (xs := enL rows t) (i := bk rows k) (by omega) (by omega)
    have zi := zer_in B t k hk
    have hl2 : fs.length < 100000 := by omega
    have hl3 : fs.length + 1 < 100000 := by omega
    have hl4 : fs.length + 1 + 1 < 100000 := by omega
    have key : ∃ gs : List P, gs.length ≤ 3 ∧ (gs = [] ↔ good rows t k) ∧ ((bindR (bindT (.nm 6) (.int (0 + (k : Int))) [some (.val (.lst ((metresL 0 rows).map metP))), some (.val (datP t)), some (.val (.lst ((leL rows t).map .int))), some (.val (.lst ((grL rows t).map .int))), some (.val (.lst ((enL rows t).map .int))), some (.loc 0), o6, o7, o8]) [.lst (fs.map .val)]).seq m_l_faults_b1) =
        .nx [some (.val (.lst ((metresL 0 rows).map metP))), some (.val (datP t)), some (.val (.lst ((leL rows t).map .int))), some (.val (.lst ((grL rows t).map .int))), some (.val (.lst ((enL rows t).map .int))), some (.loc 0), some (.val (.int k)), some (.val (.int (bg rows k))), some (.val (.int (bk rows k)))] [.lst ((fs ++ gs).map .val)] := by
      have d4 : datP t = .lst [.int t.len, .tup [.int t.f0, .int t.f1], .tup [.int t.b0, .int t.b1], .int t.lift, .int t.drive] := rfl
      rw [d4]
      by_cases c1 : bk rows k - bg rows k < t.len
      · by_cases c2 : zer rows t k
        · have c2' := zi.mpr c2
          by_cases c3 : gi (enL rows t) (bk rows k) < gi (grL rows t) (bk rows k)
          · exact ⟨[.tup [.str "short", .int k], .tup [.str "stall", .int k], .tup [.str "fast", .int k]], by simp, by simp [good, c1], by simp (disch := omega) [m_l_faults_b1, b1, b2, e1, e2, cutA_map, in_ints, c1, c2', c3, hl2, hl3, hl4]⟩
          · exact ⟨[.tup [.str "short", .int k], .tup [.str "stall", .int k]], by simp, by simp [good, c1], by simp (disch := omega) [m_l_faults_b1, b1, b2, e1, e2, cutA_map, in_ints, c1, c2', c3, hl2, hl3, hl4]⟩
        · have c2' := fun h => c2 (zi.mp h)
          have c2' : ¬ 0 ∈ cutA (leL rows t) (some (bg rows k)) (some (bk rows k + 1)) := c2'
          by_cases c3 : gi (enL rows t) (bk rows k) < gi (grL rows t) (bk rows k)
          · exact ⟨[.tup [.str "short", .int k], .tup [.str "fast", .int k]], by simp, by simp [good, c1], by simp (disch := omega) [m_l_faults_b1, b1, b2, e1, e2, cutA_map, in_ints, c1, c2', c3, hl2, hl3, hl4]⟩
          · exact ⟨[.tup [.str "short", .int k]], by simp, by simp [good, c1], by simp (disch := omega) [m_l_faults_b1, b1, b2, e1, e2, cutA_map, in_ints, c1, c2', c3, hl2, hl3, hl4]⟩
      · by_cases c2 : zer rows t k
        · have c2' := zi.mpr c2
          by_cases c3 : gi (enL rows t) (bk rows k) < gi (grL rows t) (bk rows k)
          · exact ⟨[.tup [.str "stall", .int k], .tup [.str "fast", .int k]], by simp, by simp [good, c2], by simp (disch := omega) [m_l_faults_b1, b1, b2, e1, e2, cutA_map, in_ints, c1, c2', c3, hl2, hl3, hl4]⟩
          · exact ⟨[.tup [.str "stall", .int k]], by simp, by simp [good, c2], by simp (disch := omega) [m_l_faults_b1, b1, b2, e1, e2, cutA_map, in_ints, c1, c2', c3, hl2, hl3, hl4]⟩
        · have c2' : ¬ 0 ∈ cutA (leL rows t) (some (bg rows k)) (some (bk rows k + 1)) := fun h => c2 (zi.mp h)
          by_cases c3 : gi (enL rows t) (bk rows k) < gi (grL rows t) (bk rows k)
          · exact ⟨[.tup [.str "fast", .int k]], by simp, by simp [good, c3], by simp (disch := omega) [m_l_faults_b1, b1, b2, e1, e2, cutA_map, in_ints, c1, c2', c3, hl2, hl3, hl4]⟩
          · exact ⟨[], by simp, by simp [good, c1, c2]; omega, by simp (disch := omega) [m_l_faults_b1, b1, b2, e1, e2, cutA_map, in_ints, c1, c2', c3, hl2, hl3, hl4]⟩
    have ⟨gs, g1, g2, g3⟩ := key
    rw [g3]
    exact ⟨fs ++ gs, _, _, _, rfl, rfl, by simp; omega, good_succ hf g2⟩) (ρ := [some (.val (.lst ((metresL 0 rows).map metP))), some (.val (datP t)), some (.val (.lst ((leL rows t).map .int))), some (.val (.lst ((grL rows t).map .int))), some (.val (.lst ((enL rows t).map .int))), some (.loc 0), none, none, none]) (S := [.lst []]) ⟨[], _, _, _, rfl, rfl, by simp, by simp⟩
  refine ⟨fs, ?_, hf⟩
  obtain ⟨mt, hm1, hm2⟩ := last_blk B L
  have ert : rngOk 0 (nBr rows : Int) = true := rngOk_of (by omega) (by omega) (by omega) (by omega)
  have g := gre_ok L t
  have l := lst_ok B L t
  have en := lenv_ok B L t
  simp [m_l_faults, runP_ap, envOf_ap, g, l, en, eL, hm1, metP, hm2, ert]
/-! a loop that is left -/
theorem for_rng_at (J : Nat → Z.Env → Store → Prop) {t : Tg} {body : FS} {lo : Int} {n m : Nat} (hm : m < n) (step : ∀ (k : Nat) ρ S, k < m → J k ρ S → ((bindR (bindT t (.int (lo + (k : Int))) ρ) S).seq body).goes (J (k + 1))) {ρ : Z.Env} {S : Store} (h : J 0 ρ S) :
    ∃ ρ' S' rest, J m ρ' S' ∧ forGo t body (rngP lo n) ρ S = ((bindR (bindT t (.int (lo + (m : Int))) ρ') S').seq body).round (forGo t body rest) := by
  have e : rngP lo n = rngP lo m ++ (.int (lo + (m : Int)) :: ((List.range (n - m - 1)).map fun (k : Nat) => P.int (lo + ((m + 1 + k : Nat) : Int)))) := by
    unfold rngP
    obtain ⟨r, rfl⟩ : ∃ r, n = m + (r + 1) := ⟨n - m - 1, by omega⟩
    rw [List.range_add, List.map_append, List.range_succ_eq_map, List.map_cons, List.map_cons, Nat.add_zero, List.map_map, List.map_map, show m + (r + 1) - m - 1 = r by omega]
    congr 2
    refine List.map_congr_left fun k _ => ?_
    simp only [Function.comp, Nat.succ_eq_add_one]
    rw [show m + (k + 1) = m + 1 + k by omega]
  suffices H : ∀ (ys : List P) (d k : Nat), k + d = m → ∀ ρ S, J k ρ S → ∃ ρ' S', J m ρ' S' ∧ forGo t body (((List.range' k d).map fun (k : Nat) => P.int (lo + (k : Int))) ++ ys) ρ S = forGo t body ys ρ' S' by
    obtain ⟨ρ', S', j, e2⟩ := H _ m 0 (by omega) ρ S h
    refine ⟨ρ', S', ((List.range (n - m - 1)).map fun (k : Nat) => P.int (lo + ((m + 1 + k : Nat) : Int))), j, ?_⟩
    rw [e]
    unfold rngP
    rw [List.range_eq_range', e2, forGo_cons]
  intro ys d
  induction d with
  | zero => intro k hk ρ S j; have : k = m := by omega
            subst this; exact ⟨ρ, S, j, rfl⟩
  | succ d ih =>
    intro k hk ρ S j
    rw [List.range'_succ, List.map_cons, List.cons_append, forGo_cons]
    rcases goes_ex (step k ρ S (by omega) j) with ⟨ρ1, S1, e1, j1⟩ | ⟨ρ1, S1, e1, j1⟩
    · rw [e1, rd_nx]; exact ih (k + 1) (by omega) ρ1 S1 j1
    · rw [e1, rd_ct]; exact ih (k + 1) (by omega) ρ1 S1 j1
end Gk15
end
-- part M15g
section
set_option Elab.async false
set_option linter.all false
set_option maxRecDepth 100000
set_option autoImplicit false
namespace Gk15
open PySem PySem.Spec PyProof.Rows L2 Z
/-! ways and passages in scans -/
noncomputable def wA (rows : List Seg) (t : Tr) (b : Nat) : Int := sm (tA rows t) (bg rows b + t.len) (bk rows b - (bg rows b + t.len)).toNat
noncomputable def wB (rows : List Seg) (t : Tr) (b : Nat) : Int := sm (tB rows t) (bg rows b + t.len) (bk rows b - (bg rows b + t.len)).toNat
noncomputable def pA (rows : List Seg) (t : Tr) (b : Nat) : Int := sm (tA rows t) (bg rows b) t.len.toNat
noncomputable def pB (rows : List Seg) (t : Tr) (b : Nat) : Int := sm (tB rows t) (bg rows b) t.len.toNat
def wyP (q : Int × Int) : P := .tup [.int q.1, .int q.2]
noncomputable def wy (rows : List Seg) (t : Tr) (sc : Int) (b : Nat) : Int × Int := (mx 1 (wA rows t b / sc), wB rows t b / sc + 1)
noncomputable def ov (rows : List Seg) (t : Tr) (sc : Int) : Nat → Int
  | 0 => 1
  | k + 1 => mx (ov rows t sc k) (pB rows t k / sc + 1)
def shrt (rows : List Seg) (t : Tr) (b : Nat) : Prop := bk rows b - bg rows b < t.len
theorem tm_le {a b : Int} (h1 : 1 ≤ a) (h : a ≤ b) (hb : b < 1000000000000000000) : 0 ≤ tmA b ∧ tmA b ≤ tmB a := by
  have m := tmA_mono h1 h hb
  have n0 : 0 ≤ tmA b := Int.ediv_nonneg (by omega) (by have := ru_pos (n := b) (by omega) hb; omega)
  refine ⟨n0, Int.le_trans m ?_⟩
  have u := ru_pos h1 (by omega : a < 1000000000000000000)
  have r := rt_pos h1 (by omega : a < 1000000000000000000)
  have c := ceil_eq (rt a) r
  unfold tmA tmB
  rw [← c, Int.le_ediv_iff_mul_le (by omega)]
  have q := Int.ediv_mul_le 100000000 (b := ru a) (by omega)
  have q2 : 0 ≤ 100000000 / ru a := Int.ediv_nonneg (by omega) (by omega)
  have e : rt a ≤ ru a := by unfold ru; split <;> omega
  have := Int.mul_le_mul_of_nonneg_left e q2
  omega
theorem tAB {rows : List Seg} (B : Blks rows) (L : Lay rows) {t : Tr} (ht : TrOk t) {b : Nat} (hz : ¬ zer rows t b) {k : Int} (k0 : bg rows b ≤ k) (k1 : k + 1 ≤ bk rows b) : 0 ≤ tA rows t k ∧ tA rows t k ≤ tB rows t k := by
  have p1 := mins_pos ht hz k k0 (by omega)
  have p2 := mins_pos ht hz (k + 1) (by omega) k1
  have g1 := le_gr_i B L ht k
  have g2 := le_gr_i B L ht (k + 1)
  have g3 := (gr_b L ht k).2
  have g4 := (gr_b L ht (k + 1)).2
  exact tm_le (by unfold mn; split <;> omega) (by unfold mn mx; split <;> split <;> omega) (by unfold mx; split <;> omega)
theorem sm_nn {g : Int → Int} {a : Int} : ∀ {n : Nat}, (∀ k : Nat, k < n → 0 ≤ g (a + k)) → 0 ≤ sm g a n
  | 0, _ => Int.le_refl _
  | n + 1, h => by
    have := sm_nn (n := n) fun k hk => h k (by omega)
    have := h n (by omega)
    simp only [sm]
    omega
theorem w_le {rows : List Seg} (B : Blks rows) (L : Lay rows) {t : Tr} (ht : TrOk t) {b : Nat} (hz : ¬ zer rows t b) (hs : ¬ shrt rows t b) : 0 ≤ wA rows t b ∧ wA rows t b ≤ wB rows t b := by
  have a1 := ht.a1
  unfold shrt at hs
  exact ⟨sm_nn fun k hk => (tAB B L ht hz (by omega) (by omega)).1, sm_mono fun k hk => (tAB B L ht hz (by omega) (by omega)).2⟩
theorem wy_ok {rows : List Seg} (B : Blks rows) (L : Lay rows) {t : Tr} (ht : TrOk t) {b : Nat} (hz : ¬ zer rows t b) (hs : ¬ shrt rows t b) {sc : Int} (h : 0 < sc) : 1 ≤ (wy rows t sc b).1 ∧ (wy rows t sc b).1 ≤ (wy rows t sc b).2 := by
  obtain ⟨w1, w2⟩ := w_le B L ht hz hs
  have d1 := Int.ediv_nonneg w1 (show 0 ≤ sc by omega)
  have d2 := Int.ediv_le_ediv h w2
  unfold wy mx
  simp only []
  split <;> omega
theorem passv_ok {rows : List Seg} (B : Blks rows) (L : Lay rows) {t : Tr} (ht : TrOk t) (b : Nat) (hb : b < nBr rows) :
    (shrt rows t b → m_passage_times [layP rows, trP t, .int b] = .ex ⟨"NotFitting", [], []⟩) ∧
    (¬ shrt rows t b → zer rows t b → m_passage_times [layP rows, trP t, .int b] = .ok .non) ∧
    (¬ shrt rows t b → ¬ zer rows t b → m_passage_times [layP rows, trP t, .int b] = .ok (.tup [.int (pA rows t b), .int (pB rows t b)])) := by
  have q := B.le b hb
  have b1 := begin_ok B b hb
  have b2 := brake_ok B b hb
  have a1 := ht.a1
  unfold shrt pA pB
  by_cases h : bk rows b - bg rows b < t.len
  · exact ⟨fun _ => by simp [m_passage_times, runP_ap, envOf_ap, NSL, b1, b2, h], fun hn => (hn h).elim, fun hn => (hn h).elim⟩
  · obtain ⟨r1, r2⟩ := tb_ok B L ht b hb (bg rows b) (bg rows b + t.len) (Int.le_refl _) (by omega) (by omega)
    rw [show bg rows b + t.len - bg rows b = t.len by omega] at r2
    exact ⟨fun hn => (h hn).elim, fun _ z => by simp [m_passage_times, runP_ap, envOf_ap, NSL, b1, b2, h, r1 z], fun _ z => by simp [m_passage_times, runP_ap, envOf_ap, NSL, b1, b2, h, r2 z]⟩
theorem exNN : exmT "NotFitting" "NotFitting" = some true := by decide +kernel
theorem exBN : exmT "BadNumber" "NotFitting" = some false := by decide +kernel
theorem exBB : exmT "BadNumber" "BadNumber" = some true := by decide +kernel
theorem exNB : exmT "NotFitting" "BadNumber" = some false := by decide +kernel
theorem exRB : exmT "InvalidRide" "BadNumber" = some false := by decide +kernel
theorem exRN : exmT "InvalidRide" "NotFitting" = some false := by decide +kernel
theorem exRR : exmT "InvalidRide" "InvalidRide" = some true := by decide +kernel
open Classical in
/-- what the law awaits of a passage -/
noncomputable def duP (rows : List Seg) (t : Tr) (b : Nat) : P := if shrt rows t b then .str "fit" else if zer rows t b then .non else .tup [.int (pA rows t b), .int (pB rows t b)]
theorem lpass_ok {rows : List Seg} (B : Blks rows) (L : Lay rows) {t : Tr} (ht : TrOk t) (b : Nat) (hb : b < nBr rows) : m_l_passage [layP rows, trP t, .int b] = .ok (duP rows t b) := by
  obtain ⟨h1, h2, h3⟩ := passv_ok B L ht b hb
  unfold duP
  by_cases c : shrt rows t b
  · rw [if_pos c]
    simp [m_l_passage, runP_ap, envOf_ap, h1 c, tryGo_yes, exNN]
  · rw [if_neg c]
    by_cases d : zer rows t b
    · rw [if_pos d]
      simp [m_l_passage, runP_ap, envOf_ap, h2 c d]
    · rw [if_neg d]
      simp [m_l_passage, runP_ap, envOf_ap, h3 c d]
theorem lpass_no {rows : List Seg} (B : Blks rows) (t : Tr) : m_l_passage [layP rows, trP t, .int (nBr rows : Nat)] = .ok (.str "number") := by
  have lk := B.lk
  have c : m_Layout_check_block [layP rows, .int (nBr rows : Nat)] = .ex ⟨"BadNumber", [], []⟩ := by
    simp (disch := omega) [m_Layout_check_block, runP_ap, envOf_ap, lk]
  have b : m_Layout_begin [layP rows, .int (nBr rows : Nat)] = .ex ⟨"BadNumber", [], []⟩ := by
    simp [m_Layout_begin, runP_ap, envOf_ap, c, NSL]
  have p : m_passage_times [layP rows, trP t, .int (nBr rows : Nat)] = .ex ⟨"BadNumber", [], []⟩ := by
    simp [m_passage_times, runP_ap, envOf_ap, b, NSL]
  simp [m_l_passage, runP_ap, envOf_ap, p, tryGo_yes, tryGo_no, exBN, exBB]
/-! like -/
theorem like_str (j : Nat) (s : Str) : m_l_like (j + 1) [.str s, .str s] = .ok (.bl true) := by simp [m_l_like, runP_ap, envOf_ap, isi]
theorem like_non (j : Nat) : m_l_like (j + 1) [.non, .non] = .ok (.bl true) := by simp [m_l_like, runP_ap, envOf_ap, isi]
theorem like_int (j : Nat) (s : Int) : m_l_like (j + 1) [.int s, .int s] = .ok (.bl true) := by simp [m_l_like, runP_ap, envOf_ap, isi]
theorem like_tup (j : Nat) (ps : List P) (hl : ps.length ≤ 1000) (h : ∀ p ∈ ps, m_l_like j [p, p] = .ok (.bl true)) : m_l_like (j + 1) [.tup ps, .tup ps] = .ok (.bl true) := by
  have ert : rngOk 0 (ps.length : Int) = true := rngOk_of (by omega) (by omega) (by omega) (by omega)
  have lg := lcGo_rng (vs := [2]) (t := .nm 2) (e := (eCall 2 (m_l_like j) (aCons (eBin ixW (eVar 0) (eVar 2)) (aCons (eBin ixW (eVar 1) (eVar 2)) aNil)))) (ρ := [some (.val (.tup ps)), some (.val (.tup ps)), none]) (S := []) (n := ps.length) (fun _ => .bl true) (by
    intro k hk
    refine ⟨_, bindT_nm _ _ _, ?_⟩
    have e : atI ps (k : Int) = some ps[k] := by rw [atI_nn, List.getElem?_eq_getElem hk]
    simp [e, h _ (List.getElem_mem hk)])
  have hl2 : ps.length ≤ 100000 := by omega
  simp [m_l_like, runP_ap, envOf_ap, isi, ert, hl2, lg]
theorem like_du (rows : List Seg) (t : Tr) (b : Nat) : m_l_like 5 [duP rows t b, duP rows t b] = .ok (.bl true) := by
  unfold duP
  split
  · exact like_str 4 _
  · split
    · exact like_non 4
    · refine like_tup 4 _ (by simp) fun p hp => ?_
      simp at hp
      rcases hp with rfl | rfl <;> exact like_int 3 _
/-! the ride -/
theorem max_ex (xs : List Int) (h : xs ≠ []) : ∃ m, maxI xs = some m ∧ m ∈ xs ∧ ∀ y ∈ xs, y ≤ m := by
  cases xs with
  | nil => exact (h rfl).elim
  | cons x xs => exact ⟨_, rfl, (foldl_max x xs).1, (foldl_max x xs).2⟩
theorem least_ex {Q : Nat → Prop} : ∀ n, (∃ b, b < n ∧ Q b) → ∃ b, b < n ∧ Q b ∧ ∀ k, k < b → ¬ Q k
  | 0, ⟨b, h, _⟩ => by omega
  | n + 1, ⟨b, h, q⟩ => by
    by_cases c : ∃ b, b < n ∧ Q b
    · obtain ⟨b', h1, h2, h3⟩ := least_ex n c
      exact ⟨b', by omega, h2, h3⟩
    · refine ⟨b, h, q, fun k hk hq => c ⟨k, by omega, hq⟩⟩
def riP (ws : List (Int × Int)) (o : Int) (ts : List Int) : P := .obj "Ride" ["ways", "over", "trains"] [.tup (ws.map wyP), .int o, .tup (ts.map .int)]
theorem rinit_ok {ws : List (Int × Int)} {o d : Int} (h1 : 2 ≤ ws.length) (h2 : ws.length ≤ 12) (hw : ∀ q ∈ ws, 1 ≤ q.1 ∧ q.1 ≤ q.2 ∧ q.2 ≤ 99) (o1 : 1 ≤ o) (o2 : o ≤ 20) (d1 : 0 ≤ d) (d2 : d < ws.length) :
    m_Ride_init [.lst (ws.map wyP), .int o, .lst [.int d]] = .ok (riP ws o [d]) := by
  have ag := agGo_all (t := .tp [.nm 4, .nm 5]) (e := eChain3 leW leW leW (eCst (.int 1)) (eVar 4) (eVar 5) (eCst (.int 99))) (ρ := [some (.loc 0), some (.val (.lst (ws.map wyP))), some (.val (.int o)), some (.val (.lst [.int d])), none, none, none]) (S := [.ins "Ride" [] []]) wyP (fun _ => true) (xs := ws) (by
    intro q hq
    obtain ⟨a, b, c⟩ := hw q hq
    refine ⟨[some (.loc 0), some (.val (.lst (ws.map wyP))), some (.val (.int o)), some (.val (.lst [.int d])), some (.val (.int q.1)), some (.val (.int q.2)), none], by simp [wyP], ?_⟩
    simp [eChain3, a, b, c])
  have ag2 : agGo false (.nm 6) (eChain leW ltW (eCst (.int 0)) (eVar 6) (eCB lenW (aCons (eVar 1) aNil))) [some (.loc 0), some (.val (.lst (ws.map wyP))), some (.val (.int o)), some (.val (.lst [.int d])), none, none, none] [.int d] [.ins "Ride" [] []] = .ok true [.ins "Ride" [] []] := by
    have := agGo_all (t := .nm 6) (e := eChain leW ltW (eCst (.int 0)) (eVar 6) (eCB lenW (aCons (eVar 1) aNil))) (ρ := [some (.loc 0), some (.val (.lst (ws.map wyP))), some (.val (.int o)), some (.val (.lst [.int d])), none, none, none]) (S := [.ins "Ride" [] []]) P.int (fun _ => true) (xs := [d]) (by
      intro q hq
      simp at hq
      subst hq
      exact ⟨_, bindT_nm _ _ _, by simp [d1, d2]⟩)
    simpa using this
  have i1 : (2 : Int) ≤ (ws.length : Int) := by omega
  have i2 : (ws.length : Int) ≤ 12 := by omega
  have i3 : (1 : Int) < (ws.length : Int) := by omega
  have dd : dedup [d] = [d] := by simp [dedup, PyProof.Rows.step_dedup]
  simp [m_Ride_init, runI_ap, envOf_ap, i1, i2, i3, ag, ag2, o1, o2, dd, riP]
theorem rinit_no {ws : List (Int × Int)} {o : Int} (h1 : 2 ≤ ws.length) (h2 : ws.length ≤ 12) (hw : ∀ q ∈ ws, 1 ≤ q.1 ∧ q.1 ≤ q.2 ∧ q.2 ≤ 99) (o1 : 1 ≤ o) (o2 : o ≤ 20) :
    m_Ride_init [.lst (ws.map wyP), .int o, .lst [.int 0, .int 0]] = .ex ⟨"InvalidRide", [], []⟩ := by
  have ag := agGo_all (t := .tp [.nm 4, .nm 5]) (e := eChain3 leW leW leW (eCst (.int 1)) (eVar 4) (eVar 5) (eCst (.int 99))) (ρ := [some (.loc 0), some (.val (.lst (ws.map wyP))), some (.val (.int o)), some (.val (.lst [.int 0, .int 0])), none, none, none]) (S := [.ins "Ride" [] []]) wyP (fun _ => true) (xs := ws) (by
    intro q hq
    obtain ⟨a, b, c⟩ := hw q hq
    refine ⟨[some (.loc 0), some (.val (.lst (ws.map wyP))), some (.val (.int o)), some (.val (.lst [.int 0, .int 0])), some (.val (.int q.1)), some (.val (.int q.2)), none], by simp [wyP], ?_⟩
    simp [eChain3, a, b, c])
  have i1 : (2 : Int) ≤ (ws.length : Int) := by omega
  have i2 : (ws.length : Int) ≤ 12 := by omega
  have dd : dedup [0, 0] = [0] := by simp [dedup, PyProof.Rows.step_dedup]
  by_cases i3 : (2 : Int) < (ws.length : Int) <;> simp [m_Ride_init, runI_ap, envOf_ap, i1, i2, i3, ag, o1, o2, dd]
end Gk15
end
-- part M15h
section
set_option Elab.async false
set_option linter.all false
set_option maxRecDepth 100000
set_option autoImplicit false
namespace Gk15
open PySem PySem.Spec PyProof.Rows L2 Z
noncomputable def wyL (rows : List Seg) (t : Tr) (sc : Int) (k : Nat) : List (Int × Int) := (List.range k).map (wy rows t sc)
theorem wyL_succ (rows : List Seg) (t : Tr) (sc : Int) (k : Nat) : wyL rows t sc (k + 1) = wyL rows t sc k ++ [wy rows t sc k] := by simp [wyL, List.range_succ]
theorem wyL_len (rows : List Seg) (t : Tr) (sc : Int) (k : Nat) : (wyL rows t sc k).length = k := by simp [wyL]
def JRi (rows : List Seg) (t : Tr) (sc : Int) (ts : List P) (k : Nat) (ρ : Z.Env) (S : Store) : Prop := ∃ (o6 o7 o8 o9 : Option W),
  ρ = [some (.val (layP rows)), some (.val (trP t)), some (.val (.int sc)), some (.val (.lst ts)), some (.loc 0), some (.val (.int (ov rows t sc k))), o6, o7, o8, o9, none, none] ∧
  S = [.lst ((wyL rows t sc k).map fun q => .val (wyP q))]
theorem ri_step {rows : List Seg} (B : Blks rows) (L : Lay rows) {t : Tr} (ht : TrOk t) {sc : Int} (h1 : 0 < sc) (h2 : sc ≤ 10000000) (ts : List P) (k : Nat) (hk : k < nBr rows) (g1 : ¬ shrt rows t k) (g2 : ¬ zer rows t k) (o6 o7 o8 o9 : Option W) :
    ((bindR (bindT (.nm 6) (.int (0 + (k : Int))) [some (.val (layP rows)), some (.val (trP t)), some (.val (.int sc)), some (.val (.lst ts)), some (.loc 0), some (.val (.int (ov rows t sc k))), o6, o7, o8, o9, none, none]) [.lst ((wyL rows t sc k).map fun q => .val (wyP q))]).seq m_ride_of_b1) =
    if pA rows t k < sc then .ex ⟨"NotFitting", [], []⟩ [some (.val (layP rows)), some (.val (trP t)), some (.val (.int sc)), some (.val (.lst ts)), some (.loc 0), some (.val (.int (ov rows t sc k))), some (.val (.int k)), some (.val (.int (bg rows k + t.len))), some (.val (.int (pA rows t k))), some (.val (.int (pB rows t k))), none, none] [.lst ((wyL rows t sc (k + 1)).map fun q => .val (wyP q))]
    else .nx [some (.val (layP rows)), some (.val (trP t)), some (.val (.int sc)), some (.val (.lst ts)), some (.loc 0), some (.val (.int (ov rows t sc (k + 1)))), some (.val (.int k)), some (.val (.int (bg rows k + t.len))), some (.val (.int (pA rows t k))), some (.val (.int (pB rows t k))), none, none] [.lst ((wyL rows t sc (k + 1)).map fun q => .val (wyP q))] := by
  have q := B.le k hk
  have hn2 := L.n2
  have a1 := ht.a1
  have b1 := begin_ok B k hk
  have b2 := brake_ok B k hk
  have p := (passv_ok B L ht k hk).2.2 g1 g2
  have tb := (tb_ok B L ht k hk (bg rows k + t.len) (bk rows k) (by omega) (Int.le_refl _) (by unfold shrt at g1; omega)).2 g2
  have hl : (wyL rows t sc k).length < 100000 := by rw [wyL_len]; omega
  have h3 : sc < 18446744073709551616 := by omega
  have f1 : sm (tA rows t) (bg rows k + t.len) (bk rows k - (bg rows k + t.len)).toNat = wA rows t k := rfl
  have f2 : sm (tB rows t) (bg rows k + t.len) (bk rows k - (bg rows k + t.len)).toNat = wB rows t k := rfl
  rw [f1, f2] at tb
  rw [wyL_succ]
  have ew : wyP (wy rows t sc k) = .tup [.int (mx 1 (wA rows t k / sc)), .int (wB rows t k / sc + 1)] := rfl
  have eo : ov rows t sc (k + 1) = mx (ov rows t sc k) (pB rows t k / sc + 1) := rfl
  rw [eo]
  unfold mx at ew ⊢
  by_cases c : pA rows t k < sc <;> simp (disch := omega) [m_ride_of_b1, NSL, b1, b2, p, tb, hl, h1, h3, c, ew]
theorem ride_ok {rows : List Seg} (B : Blks rows) (L : Lay rows) {t : Tr} (ht : TrOk t) {sc : Int} (h1 : 1000 ≤ sc) (h2 : sc ≤ 10000000) (ts : List P) :
    (¬ (∀ b, b < nBr rows → good rows t b) ∨ (∃ b, b < nBr rows ∧ pA rows t b < sc) ∨ 20 < ov rows t sc (nBr rows) ∨ (∃ b, b < nBr rows ∧ 99 < (wy rows t sc b).2) → m_ride_of [layP rows, trP t, .int sc, .lst ts] = .ex ⟨"NotFitting", [], []⟩) ∧
    ((∀ b, b < nBr rows → good rows t b) → ¬ (∃ b, b < nBr rows ∧ pA rows t b < sc) → ¬ 20 < ov rows t sc (nBr rows) → ¬ (∃ b, b < nBr rows ∧ 99 < (wy rows t sc b).2) →
      ∀ r, m_Ride_init [.lst ((wyL rows t sc (nBr rows)).map wyP), .int (ov rows t sc (nBr rows)), .lst ts] = r → m_ride_of [layP rows, trP t, .int sc, .lst ts] = r) := by
  obtain ⟨fs, f1, f2⟩ := faults_ok B L ht
  have bl := blocks_ok B
  have hn1 := L.n1
  have hn2 := L.n2
  have ert : rngOk 0 (nBr rows : Int) = true := rngOk_of (by omega) (by omega) (by omega) (by omega)
  by_cases hg : ∀ b, b < nBr rows → good rows t b
  · have fe : fs = [] := f2.mpr hg
    subst fe
    by_cases hf : ∃ b, b < nBr rows ∧ pA rows t b < sc
    · obtain ⟨m, m1, m2, m3⟩ := least_ex _ hf
      obtain ⟨ρ, S, rest, hJ, eL⟩ := for_rng_at (JRi rows t sc ts) (t := .nm 6) (body := m_ride_of_b1) (lo := 0) (n := nBr rows) m1 (by
        rintro k _ _ hk ⟨o6, o7, o8, o9, rfl, rfl⟩
        have g := hg k (by omega)
        rw [ri_step B L ht (by omega) h2 ts k (by omega) g.1 g.2.1, if_neg (m3 k hk)]
        exact ⟨_, _, _, _, rfl, rfl⟩) (ρ := [some (.val (layP rows)), some (.val (trP t)), some (.val (.int sc)), some (.val (.lst ts)), some (.loc 0), some (.val (.int 1)), none, none, none, none, none, none]) (S := [.lst []]) ⟨_, _, _, _, rfl, rfl⟩
      obtain ⟨o6, o7, o8, o9, rfl, rfl⟩ := hJ
      have g := hg m m1
      rw [ri_step B L ht (by omega) h2 ts m m1 g.1 g.2.1, if_pos m2, rd_ex] at eL
      refine ⟨fun _ => ?_, fun _ h => (h hf).elim⟩
      simp [m_ride_of, runP_ap, envOf_ap, NSL, h1, h2, f1, bl, ert, eL]
    · obtain ⟨_, _, eL, o6, o7, o8, o9, rfl, rfl⟩ := for_rng (JRi rows t sc ts) (t := .nm 6) (body := m_ride_of_b1) (lo := 0) (n := nBr rows) (by
        rintro k _ _ hk ⟨o6, o7, o8, o9, rfl, rfl⟩
        have g := hg k (by omega)
        rw [ri_step B L ht (by omega) h2 ts k (by omega) g.1 g.2.1, if_neg (fun c => hf ⟨k, hk, c⟩)]
        exact ⟨_, _, _, _, rfl, rfl⟩) (ρ := [some (.val (layP rows)), some (.val (trP t)), some (.val (.int sc)), some (.val (.lst ts)), some (.loc 0), some (.val (.int 1)), none, none, none, none, none, none]) (S := [.lst []]) ⟨_, _, _, _, rfl, rfl⟩
      by_cases ho : 20 < ov rows t sc (nBr rows)
      · refine ⟨fun _ => ?_, fun _ _ h => (h ho).elim⟩
        simp [m_ride_of, runP_ap, envOf_ap, NSL, h1, h2, f1, bl, ert, eL, ho]
      · have wl := wyL_len rows t sc (nBr rows)
        have lg := lcGo_map (vs := [10, 11]) (t := .tp [.nm 10, .nm 11]) (e := eVar 11) (ρ := [some (.val (layP rows)), some (.val (trP t)), some (.val (.int sc)), some (.val (.lst ts)), some (.loc 0), some (.val (.int (ov rows t sc (nBr rows)))), o6, o7, o8, o9, none, none]) (S := [.frz (.lst ((wyL rows t sc (nBr rows)).map wyP))]) wyP (fun q => .int q.2) (xs := wyL rows t sc (nBr rows)) (by
          intro q hq
          exact ⟨[some (.val (layP rows)), some (.val (trP t)), some (.val (.int sc)), some (.val (.lst ts)), some (.loc 0), some (.val (.int (ov rows t sc (nBr rows)))), o6, o7, o8, o9, some (.val (.int q.1)), some (.val (.int q.2))], by simp [wyP], by simp⟩)
        obtain ⟨m, x1, x2, x3⟩ := max_ex ((wyL rows t sc (nBr rows)).map fun q => q.2) (fun h => by
          have := congrArg List.length h
          rw [List.length_map, wl] at this
          simp at this
          omega)
        have mf : 99 < m ↔ ∃ b, b < nBr rows ∧ 99 < (wy rows t sc b).2 := by
          constructor
          · intro h
            simp only [wyL, List.map_map, List.mem_map, List.mem_range] at x2
            obtain ⟨b, hb, e⟩ := x2
            exact ⟨b, hb, by simp only [Function.comp] at e; omega⟩
          · rintro ⟨b, hb, h⟩
            have := x3 (wy rows t sc b).2 (by simp only [wyL, List.map_map, List.mem_map, List.mem_range]; exact ⟨b, hb, rfl⟩)
            omega
        have hlw : (wyL rows t sc (nBr rows)).length ≤ 100000 := by omega
        have im := intsOf_map
        by_cases hm : 99 < m
        · refine ⟨fun _ => ?_, fun _ _ _ h => (h (mf.mp hm)).elim⟩
          simp [m_ride_of, runP_ap, envOf_ap, NSL, h1, h2, f1, bl, ert, eL, ho, hlw, lg, Z.intsOf_map, x1, hm]
        · refine ⟨fun h => ?_, fun _ _ _ _ r hr => ?_⟩
          · rcases h with h | h | h | h
            · exact (h hg).elim
            · exact (hf h).elim
            · exact (ho h).elim
            · exact (hm (mf.mpr h)).elim
          · simp [m_ride_of, runP_ap, envOf_ap, NSL, h1, h2, f1, bl, ert, eL, ho, hlw, lg, Z.intsOf_map, x1, hm, hr]
            cases r <;> rfl
  · have fe : ¬ fs = [] := fun h => hg (f2.mp h)
    have fl : 0 < fs.length := by
      cases fs with
      | nil => exact (fe rfl).elim
      | cons _ _ => simp
    have fl2 : (0 : Int) < (fs.length : Int) := by omega
    refine ⟨fun _ => ?_, fun h => (hg h).elim⟩
    simp [m_ride_of, runP_ap, envOf_ap, NSL, h1, h2, f1, fl, fl2]
/-! told -/
theorem ride_bad (rows : List Seg) (t : Tr) (sc : Int) (ts : List P) (h : sc < 1000 ∨ 10000000 < sc) : m_ride_of [layP rows, trP t, .int sc, .lst ts] = .ex ⟨"BadNumber", [], []⟩ := by
  by_cases c : 1000 ≤ sc
  · have : ¬ sc ≤ 10000000 := by omega
    simp [m_ride_of, runP_ap, envOf_ap, c, this]
  · simp [m_ride_of, runP_ap, envOf_ap, c]
theorem told_ex (rows : List Seg) (t : Tr) (sc : Int) (ts : List Int) (hl : ts.length ≤ 1000) (c : Str) (w : Str) (h : m_ride_of [layP rows, trP t, .int sc, .lst (ts.map .int)] = .ex ⟨c, [], []⟩)
    (hc : (c = "NotFitting" ∧ w = "fit") ∨ (c = "BadNumber" ∧ w = "number") ∨ (c = "InvalidRide" ∧ w = "ride")) : m_l_told [layP rows, trP t, .int sc, .lst (ts.map .int)] = .ok (.str w) := by
  have hl2 : ts.length ≤ 100000 := by omega
  have id := lc_id P.int (i := 5) (ρ := [some (.val (layP rows)), some (.val (trP t)), some (.val (.int sc)), some (.val (.lst (ts.map .int))), none, none, none]) (S := []) (xs := ts) (by simp)
  rcases hc with ⟨rfl, rfl⟩ | ⟨rfl, rfl⟩ | ⟨rfl, rfl⟩ <;> simp [m_l_told, runP_ap, envOf_ap, hl2, id, h, tryGo_yes, tryGo_no, exNN, exNB, exBB, exRB, exRN, exRR]
theorem told_ok (rows : List Seg) (t : Tr) (sc : Int) (ts : List Int) (hl : ts.length ≤ 1000) (ws : List (Int × Int)) (o : Int) (us : List Int) (h : m_ride_of [layP rows, trP t, .int sc, .lst (ts.map .int)] = .ok (riP ws o us)) :
    m_l_told [layP rows, trP t, .int sc, .lst (ts.map .int)] = .ok (.tup [.tup (ws.map wyP), .int o, .tup (us.map .int)]) := by
  have hl2 : ts.length ≤ 100000 := by omega
  have id := lc_id P.int (i := 5) (ρ := [some (.val (layP rows)), some (.val (trP t)), some (.val (.int sc)), some (.val (.lst (ts.map .int))), none, none, none]) (S := []) (xs := ts) (by simp)
  have id2 := lc_id P.int (i := 5) (ρ := [some (.val (layP rows)), some (.val (trP t)), some (.val (.int sc)), some (.val (.lst (ts.map .int))), some (.val (.lst (ts.map .int))), none, some (.val (riP ws o us))]) (S := []) (xs := ts) (by simp)
  have er : eqP (.lst (ts.map .int)) (.lst (ts.map .int)) = some true := eqP_refl 1 (by simp)
  simp only [riP] at h id2
  simp [m_l_told, runP_ap, envOf_ap, hl2, id, id2, h, er]
end Gk15
end
-- part M15i
section
set_option Elab.async false
set_option linter.all false
set_option maxRecDepth 100000
set_option autoImplicit false
namespace Gk15
open PySem PySem.Spec PyProof.Rows L2 Z
def E15 (ns ds : List Int) (rows : List Seg) (t : Tr) (sc o : Int) (fa : Bool) (o12 o13 o14 o15 o16 : Option W) : Z.Env :=
  [some (.val (.scr ns)), some (.val (.lst (ds.map .int))), some (.val (.lst (rows.map segP))), some (.val (datP t)), some (.val (.lst ((metresL 0 rows).map metP))), some (.val (layP rows)), some (.val (trP t)), some (.val (.int (nBr rows : Nat))), some (.val (.int sc)), some (.loc 0), some (.val (.int o)), some (.val (.bl fa)), o12, o13, o14, o15, o16]
/-- what stands after k blocks -/
structure Told (rows : List Seg) (t : Tr) (sc : Int) (k : Nat) (ws : List (Int × Int)) (o : Int) (fa : Bool) : Prop where
  l : ws.length ≤ k
  h : (∀ b, b < k → ¬ shrt rows t b ∧ ¬ zer rows t b) → ws = wyL rows t sc k ∧ o = ov rows t sc k ∧ (fa = true ↔ ∃ b, b < k ∧ pA rows t b < sc)
def JLw (ns ds : List Int) (rows : List Seg) (t : Tr) (sc : Int) (k : Nat) (ρ : Z.Env) (S : Store) : Prop := ∃ (ws : List (Int × Int)) (o : Int) (fa : Bool) (o12 o13 o14 o15 o16 : Option W), ρ = E15 ns ds rows t sc o fa o12 o13 o14 o15 o16 ∧
  S = [.lst (ws.map fun q => .val (wyP q))] ∧ Told rows t sc k ws o fa
theorem lw_skip {rows : List Seg} {t : Tr} {sc : Int} {k : Nat} {ws : List (Int × Int)} {o : Int} {fa : Bool} (h : Told rows t sc k ws o fa) (hb : shrt rows t k ∨ zer rows t k) : Told rows t sc (k + 1) ws o fa :=
  ⟨by have := h.l; omega, fun g => by have := g k (by omega); rcases hb with hb | hb <;> simp [hb] at this⟩
theorem lw_go {rows : List Seg} {t : Tr} {sc : Int} {k : Nat} {ws : List (Int × Int)} {o : Int} {fa : Bool} (h : Told rows t sc k ws o fa) : Told rows t sc (k + 1) (ws ++ [wy rows t sc k]) (mx o (pB rows t k / sc + 1)) (fa || decide (pA rows t k < sc)) :=
  ⟨by have := h.l; simp; omega, fun g => by
    obtain ⟨h1, h2, h3⟩ := h.h fun b hb => g b (by omega)
    refine ⟨by rw [h1, wyL_succ], by rw [h2]; rfl, ?_⟩
    rw [Bool.or_eq_true, decide_eq_true_eq, h3]
    constructor
    · rintro (⟨b, hb, c⟩ | c)
      · exact ⟨b, by omega, c⟩
      · exact ⟨k, by omega, c⟩
    · rintro ⟨b, hb, c⟩
      by_cases e : b = k
      · subst e; exact .inr c
      · exact .inl ⟨b, by omega, c⟩⟩
theorem eq_ts (ps : List P) (s : Str) (h : ps.all (shP 3) = true) (hs : PyData.strOk s = true) : eqP (.tup ps) (.str s) = some false := by
  refine eqP_of (n := 4) ?_ (by decide) ⟨ps, .inr rfl⟩
  obtain ⟨d, h1, h2, h3, h4⟩ := sh_py 4 (.tup ps) (by simpa using h)
  obtain ⟨e, i1, i2, i3, i4⟩ := sh_py 4 (.str s) (by simpa using hs)
  refine ⟨d, e, h1, i1, h2, i2, h3, i3, ?_⟩
  simp only [toPy, Option.map_eq_some_iff] at h1 i1
  obtain ⟨ds, _, rfl⟩ := h1
  cases i1
  rfl
theorem fit_ok : PyData.strOk (Str.ofString "fit") = true := by decide +kernel
theorem lw_step {ns ds : List Int} {rows : List Seg} (B : Blks rows) (L : Lay rows) {t : Tr} (ht : TrOk t) {sc : Int} (h1 : 0 < sc) (h2 : sc ≤ 10000000) (k : Nat) (hk : k < nBr rows) (ws : List (Int × Int)) (o : Int) (fa : Bool) (o12 o13 o14 o15 o16 : Option W) (hT : Told rows t sc k ws o fa) :
    ∃ ws' o' fa' o12' o13' o14' o15' o16', Told rows t sc (k + 1) ws' o' fa' ∧ ((bindR (bindT (.nm 12) (.int (0 + (k : Int))) (E15 ns ds rows t sc o fa o12 o13 o14 o15 o16)) [.lst (ws.map fun q => .val (wyP q))]).seq m_law_b1) = .nx (E15 ns ds rows t sc o' fa' o12' o13' o14' o15' o16') [.lst (ws'.map fun q => .val (wyP q))] := by
  have q := B.le k hk
  have hn2 := L.n2
  have a1 := ht.a1
  have b1 := first_ok B L k hk
  have b2 := brof_ok B L k hk
  have lp := lpass_ok B L ht k hk
  have lk := like_du rows t k
  have hl : ws.length < 100000 := by have := hT.l; omega
  have h3 : sc < 18446744073709551616 := by omega
  have d0 : atI [P.int t.len, .tup [.int t.f0, .int t.f1], .tup [.int t.b0, .int t.b1], .int t.lift, .int t.drive] 0 = some (.int t.len) := rfl
  unfold E15
  by_cases c : shrt rows t k
  · have e : duP rows t k = .str "fit" := by unfold duP; rw [if_pos c]
    rw [e] at lp lk
    refine ⟨ws, o, fa, some (.val (.int k)), some (.val (.int (bg rows k))), some (.val (.int (bk rows k))), some (.val (.str "fit")), o16, lw_skip hT (.inl c), ?_⟩
    have c' : ¬ t.len ≤ bk rows k - bg rows k := by unfold shrt at c; omega
    rw [datP]
    simp (disch := omega) [m_law_b1, b1, b2, lp, lk, c', d0]
  · have c' : t.len ≤ bk rows k - bg rows k := by unfold shrt at c; omega
    obtain ⟨s1, s2⟩ := st_ok B L ht k hk (bg rows k) (bg rows k + t.len) (Int.le_refl _) (by omega) (by omega)
    obtain ⟨s3, s4⟩ := st_ok B L ht k hk (bg rows k + t.len) (bk rows k) (by omega) (Int.le_refl _) (by omega)
    rw [show bg rows k + t.len - bg rows k = t.len by omega] at s2
    by_cases d : zer rows t k
    · have e : duP rows t k = .non := by unfold duP; rw [if_neg c, if_pos d]
      rw [e] at lp lk
      refine ⟨ws, o, fa, some (.val (.int k)), some (.val (.int (bg rows k))), some (.val (.int (bk rows k))), some (.val (.non)), o16, lw_skip hT (.inr d), ?_⟩
      have s1 := s1 d
      rw [datP] at s1 ⊢
      have en : eqP .non (.str (Str.ofString "fit")) = some false := rfl
      simp (disch := omega) [m_law_b1, b1, b2, lp, lk, c', s1, d0, en]
    · have e : duP rows t k = .tup [.int (pA rows t k), .int (pB rows t k)] := by unfold duP; rw [if_neg c, if_neg d]
      rw [e] at lp lk
      refine ⟨_, _, _, some (.val (.int k)), some (.val (.int (bg rows k))), some (.val (.int (bk rows k))), some (.val (.tup [.int (pA rows t k), .int (pB rows t k)])), some (.val (.tup [.int (wA rows t k), .int (wB rows t k)])), lw_go hT, ?_⟩
      have s2 := s2 d
      have s4 := s4 d
      have f1 : sm (tA rows t) (bg rows k + t.len) (bk rows k - (bg rows k + t.len)).toNat = wA rows t k := rfl
      have f2 : sm (tB rows t) (bg rows k + t.len) (bk rows k - (bg rows k + t.len)).toNat = wB rows t k := rfl
      have f3 : sm (tA rows t) (bg rows k) t.len.toNat = pA rows t k := rfl
      have f4 : sm (tB rows t) (bg rows k) t.len.toNat = pB rows t k := rfl
      rw [f1, f2] at s4
      rw [f3, f4] at s2
      rw [datP] at s2 s4 ⊢
      have en := eq_ts [.int (pA rows t k), .int (pB rows t k)] (Str.ofString "fit") (by simp) fit_ok
      have ew : wyP (wy rows t sc k) = .tup [.int (mx 1 (wA rows t k / sc)), .int (wB rows t k / sc + 1)] := rfl
      unfold mx at ew ⊢
      cases fa
      · simp (disch := omega) [m_law_b1, b1, b2, lp, lk, c', s2, s4, d0, en, hl, h1, h3, ew]
      · simp (disch := omega) [m_law_b1, b1, b2, lp, lk, c', s2, s4, d0, en, hl, h1, h3, ew]
theorem lw_loop {ns ds : List Int} {rows : List Seg} (B : Blks rows) (L : Lay rows) {t : Tr} (ht : TrOk t) {sc : Int} (h1 : 0 < sc) (h2 : sc ≤ 10000000) :
    ∃ ws o fa o12 o13 o14 o15 o16, Told rows t sc (nBr rows) ws o fa ∧ forGo (.nm 12) m_law_b1 (rngP 0 (nBr rows)) (E15 ns ds rows t sc 1 false none none none none none) [.lst []] = .nx (E15 ns ds rows t sc o fa o12 o13 o14 o15 o16) [.lst (ws.map fun q => .val (wyP q))] := by
  obtain ⟨ρ, S, eL, hJ⟩ := for_rng (JLw ns ds rows t sc) (t := .nm 12) (body := m_law_b1) (lo := 0) (n := nBr rows) (by
    intro k ρ S hk hJ
    unfold JLw at hJ
    have ⟨ws, o, fa, o12, o13, o14, o15, o16, hρ, hS, hT⟩ := hJ
    rw [hρ, hS]
    have ⟨ws', o', fa', p12, p13, p14, p15, p16, hT', e⟩ := lw_step (ns := ns) (ds := ds) B L ht h1 h2 k hk ws o fa o12 o13 o14 o15 o16 hT
    rw [e]
    exact ⟨ws', o', fa', _, _, _, _, _, rfl, rfl, hT'⟩) (ρ := E15 ns ds rows t sc 1 false none none none none none) (S := [.lst []]) ⟨[], 1, false, _, _, _, _, _, rfl, rfl, ⟨by simp, fun _ => ⟨rfl, rfl, by simp⟩⟩⟩
  unfold JLw at hJ
  have ⟨ws, o, fa, o12, o13, o14, o15, o16, hρ, hS, hT⟩ := hJ
  rw [hρ, hS] at eL
  exact ⟨ws, o, fa, _, _, _, _, _, hT, eL⟩
theorem sc_ex (ds : List Int) (r22 : 0 ≤ gi ds 22 ∧ gi ds 22 < 4096) (r21 : 0 ≤ gi ds 21 ∧ gi ds 21 < 4096) : ∃ sc : Int, 1000 ≤ sc ∧ sc ≤ 10000000 ∧ atI [P.int (1000 + gi ds 21), .int (20000 + 30 * gi ds 22), .int (100000 + 300 * gi ds 22), .int 5000000] (gi ds 23 % 4) = some (.int sc) := by
  have : gi ds 23 % 4 = 0 ∨ gi ds 23 % 4 = 1 ∨ gi ds 23 % 4 = 2 ∨ gi ds 23 % 4 = 3 := by omega
  rcases this with h | h | h | h <;> rw [h]
  · exact ⟨_, by omega, by omega, rfl⟩
  · exact ⟨_, by omega, by omega, rfl⟩
  · exact ⟨_, by omega, by omega, rfl⟩
  · exact ⟨_, by omega, by omega, rfl⟩
/-- the end of the law, behind its loop -/
noncomputable def lawEnd : FS := (sSeq (sIf (tOrB (tstB (eBin (eqW true) (eCall 3 m_l_passage (aCons (eVar 5) (aCons (eVar 6) (aCons (eVar 7) aNil)))) (eCst (.str "number")))) (tOrB (tNotB (tstB (eCall 2 (m_l_equal 5) (aCons (eCall 4 m_l_told (aCons (eVar 5) (aCons (eVar 6) (aCons (eCst (.int 999)) (aCons (eLstP (aCons (eCst (.int 0)) aNil)) aNil))))) (aCons (eCst (.str "number")) aNil))))) (tNotB (tstB (eCall 2 (m_l_equal 5) (aCons (eCall 4 m_l_told (aCons (eVar 5) (aCons (eVar 6) (aCons (eCst (.int 10000001)) (aCons (eLstP (aCons (eCst (.int 0)) aNil)) aNil))))) (aCons (eCst (.str "number")) aNil))))))) (sRet (eCst (.bl false))) sSkip)
  (sSeq (sAsg 15 (eTup (aCons (eCB tupleW (aCons (eVar 9) aNil)) (aCons (eVar 10) (aCons (eTup (aCons (eBin modW (eBin ixW (eVar 1) (eCst (.int 24))) (eVar 7)) aNil)) aNil)))))
  (sSeq (sIf (tOrB (tstB (eBin gtW (eCB lenW (aCons (eCall 2 m_l_faults (aCons (eVar 4) (aCons (eVar 3) aNil))) aNil)) (eCst (.int 0)))) (tOrB (tstB (eVar 11)) (tOrB (tstB (eBin gtW (eVar 10) (eCst (.int 20)))) (tstB (eBin gtW (eCB maxW (aCons (eBin addW (eLstP (aCons (eCst (.int 0)) aNil)) (eLc (iSeq (eVar 9)) [16] (.nm 16) cYes (eBin ixW (eVar 16) (eCst (.int 1))))) aNil)) (eCst (.int 99))))))) (sAsg 15 (eCst (.str "fit"))) sSkip)
  (sSeq (sIf (tNotB (tstB (eCall 2 (m_l_like 5) (aCons (eCall 4 m_l_told (aCons (eVar 5) (aCons (eVar 6) (aCons (eVar 8) (aCons (eLstP (aCons (eBin modW (eBin ixW (eVar 1) (eCst (.int 24))) (eVar 7)) aNil)) aNil))))) (aCons (eVar 15) aNil))))) (sRet (eCst (.bl false))) sSkip)
  (sRet (eOr (eBin (eqW false) (eVar 15) (eCst (.str "fit"))) (eCall 2 (m_l_equal 5) (aCons (eCall 4 m_l_told (aCons (eVar 5) (aCons (eVar 6) (aCons (eVar 8) (aCons (eLstP (aCons (eCst (.int 0)) (aCons (eCst (.int 0)) aNil))) aNil))))) (aCons (eCst (.str "ride")) aNil)))))))))
theorem eq_str (j : Nat) (s : Str) : m_l_equal (j + 1) [.str s, .str s] = .ok (.bl true) := by simp [m_l_equal, runP_ap, envOf_ap, isi]
theorem like_fin (ws : List (Int × Int)) (o d : Int) (hl : ws.length ≤ 1000) : m_l_like 5 [.tup [.tup (ws.map wyP), .int o, .tup [.int d]], .tup [.tup (ws.map wyP), .int o, .tup [.int d]]] = .ok (.bl true) := by
  refine like_tup 4 _ (by simp) fun p hp => ?_
  simp only [List.mem_cons, List.not_mem_nil, or_false] at hp
  rcases hp with rfl | rfl | rfl
  · refine like_tup 3 _ (by simpa using hl) fun p hp => ?_
    obtain ⟨q, _, rfl⟩ := List.mem_map.mp hp
    refine like_tup 2 _ (by simp) fun p hp => ?_
    simp only [List.mem_cons, List.not_mem_nil, or_false] at hp
    rcases hp with rfl | rfl <;> exact like_int 1 _
  · exact like_int 3 _
  · refine like_tup 3 _ (by simp) fun p hp => ?_
    simp only [List.mem_cons, List.not_mem_nil, or_false] at hp
    subst hp
    exact like_int 2 _
end Gk15
end
-- part M15j
section
set_option Elab.async false
set_option linter.all false
set_option maxRecDepth 100000
set_option autoImplicit false
namespace Z
open PySem PySem.Spec PyProof.Rows L2
theorem tupleW_loc (n : Nat) (S : Store) : tupleW [.loc n] S = match seqW S (.loc n) with
    | some ws => (doFrzs ws S).bind fun ps S1 => .ok (.val (.tup ps)) S1
    | none => .bad := rfl
theorem doFrzs_map {α : Type} (f : α → P) (xs : List α) (S : Store) : doFrzs (xs.map fun x => .val (f x)) S = .ok (xs.map f) S := by
  have := doFrzs_vals (xs.map f) S
  rwa [List.map_map] at this
end Z
namespace Gk15
open PySem PySem.Spec PyProof.Rows L2 Z
theorem end_holds {ns ds : List Int} (hd : Dr ds 30) {rows : List Seg} (B : Blks rows) (L : Lay rows) {t : Tr} (ht : TrOk t) {sc : Int} (h1 : 1000 ≤ sc) (h2 : sc ≤ 10000000) (ws : List (Int × Int)) (o : Int) (fa : Bool) (o12 o13 o14 o15 o16 : Option W) (hT : Told rows t sc (nBr rows) ws o fa) :
    (lawEnd (E15 ns ds rows t sc o fa o12 o13 o14 o15 o16) [.lst (ws.map fun q => .val (wyP q))]).fin = .ok (.bl true) := by
  have hn1 := L.n1
  have hn2 := L.n2
  have hwl := hT.l
  have hl : ws.length ≤ 1000 := by omega
  have hl2 : ws.length ≤ 100000 := by omega
  have hl3 : 1 + ws.length ≤ 100000 := by omega
  have lp := lpass_no B t
  have n9 := told_ex rows t 999 [0] (by simp) "BadNumber" "number" (ride_bad rows t 999 _ (.inl (by omega))) (.inr (.inl ⟨rfl, rfl⟩))
  have n1 := told_ex rows t 10000001 [0] (by simp) "BadNumber" "number" (ride_bad rows t 10000001 _ (.inr (by omega))) (.inr (.inl ⟨rfl, rfl⟩))
  simp only [List.map_cons, List.map_nil] at n9 n1
  have q9 := eq_str 4 (Str.ofString "number")
  have qr := eq_str 4 (Str.ofString "ride")
  have e24 := hd.at (i := 24) (by omega) (by omega)
  obtain ⟨d, hdd⟩ : ∃ d, gi ds 24 % (nBr rows : Int) = d := ⟨_, rfl⟩
  have d1 : 0 ≤ d := by rw [← hdd]; exact Int.emod_nonneg _ (by omega)
  have d2 : d < nBr rows := by rw [← hdd]; exact Int.emod_lt_of_pos _ (by omega)
  have hnp : 0 < nBr rows := by omega
  have vws : valAll (ws.map fun q => W.val (wyP q)) = some (ws.map wyP) := valAll_map wyP ws
  obtain ⟨fs, f1, f2⟩ := lfaults_ok B L ht
  obtain ⟨r1, r2⟩ := ride_ok B L ht h1 h2 [.int d]
  obtain ⟨_, r3⟩ := ride_ok B L ht h1 h2 [.int 0, .int 0]
  have lg := lcGo_map (vs := [16]) (t := .nm 16) (e := eBin ixW (eVar 16) (eCst (.int 1))) (ρ := [some (.val (.scr ns)), some (.val (.lst (ds.map .int))), some (.val (.lst (rows.map segP))), some (.val (datP t)), some (.val (.lst ((metresL 0 rows).map metP))), some (.val (layP rows)), some (.val (trP t)), some (.val (.int (nBr rows : Nat))), some (.val (.int sc)), some (.loc 0), some (.val (.int o)), some (.val (.bl fa)), o12, o13, o14, some (.val (.tup [.tup (ws.map wyP), .int o, .tup [.int d]])), o16]) (S := [.frz (.lst (ws.map wyP))]) wyP (fun q => .int q.2) (xs := ws) (by
    intro q hq
    exact ⟨_, bindT_nm _ _ _, by simp [wyP]⟩)
  obtain ⟨m, x1, x2, x3⟩ := max_ex (0 :: ws.map fun q => q.2) (by simp)
  have im := Z.intsOf_map (fun q : Int × Int => q.2) ws
  have fitq := like_str 4 (Str.ofString "fit")
  have told_fit : ¬ (∀ b, b < nBr rows → good rows t b) ∨ (∃ b, b < nBr rows ∧ pA rows t b < sc) ∨ 20 < ov rows t sc (nBr rows) ∨ (∃ b, b < nBr rows ∧ 99 < (wy rows t sc b).2) → m_l_told [layP rows, trP t, .int sc, .lst [.int d]] = .ok (.str "fit") := fun h =>
    told_ex rows t sc [d] (by simp) "NotFitting" "fit" (r1 h) (.inl ⟨rfl, rfl⟩)
  by_cases hg : ∀ b, b < nBr rows → good rows t b
  · have fe : fs = [] := f2.mpr hg
    subst fe
    obtain ⟨w1, w2, w3⟩ := hT.h fun b hb => ⟨(hg b hb).1, (hg b hb).2.1⟩
    have mf : 99 < m ↔ ∃ b, b < nBr rows ∧ 99 < (wy rows t sc b).2 := by
      constructor
      · intro h
        rw [List.mem_cons] at x2
        rcases x2 with x2 | x2
        · omega
        · rw [w1] at x2
          simp only [wyL, List.map_map, List.mem_map, List.mem_range] at x2
          obtain ⟨b, hb, e⟩ := x2
          exact ⟨b, hb, by simp only [Function.comp] at e; omega⟩
      · rintro ⟨b, hb, h⟩
        have := x3 (wy rows t sc b).2 (by rw [w1]; simp only [wyL, List.map_map, List.mem_cons, List.mem_map, List.mem_range]; exact .inr ⟨b, hb, rfl⟩)
        omega
    cases hfa : fa with
    | true =>
      subst hfa
      have tf := told_fit (.inr (.inl (w3.mp rfl)))
      simp [lawEnd, E15, tupleW_loc, doFrzs_map wyP, vws, hl3, lp, n9, n1, q9, hl2, e24, hnp, hdd, f1, tf, fitq, lg]
    | false =>
      subst hfa
      have hnf : ¬ (∃ b, b < nBr rows ∧ pA rows t b < sc) := fun h => by have := w3.mpr h; cases this
      by_cases ho : 20 < o
      · have tf := told_fit (.inr (.inr (.inl (by rw [← w2]; exact ho))))
        simp [lawEnd, E15, tupleW_loc, doFrzs_map wyP, vws, hl3, lp, n9, n1, q9, hl2, e24, hnp, hdd, f1, tf, fitq, lg, ho]
      · by_cases hm : 99 < m
        · have tf := told_fit (.inr (.inr (.inr (mf.mp hm))))
          simp [lawEnd, E15, tupleW_loc, doFrzs_map wyP, vws, hl3, lp, n9, n1, q9, hl2, e24, hnp, hdd, f1, tf, fitq, lg, ho, im, x1, hm]
        · have hw : ∀ q ∈ ws, 1 ≤ q.1 ∧ q.1 ≤ q.2 ∧ q.2 ≤ 99 := fun q hq => by
            have hq3 := x3 q.2 (by rw [List.mem_cons, List.mem_map]; exact .inr ⟨q, hq, rfl⟩)
            rw [w1] at hq
            simp only [wyL, List.mem_map, List.mem_range] at hq
            obtain ⟨b, hb, rfl⟩ := hq
            have := wy_ok B L ht (hg b hb).2.1 (hg b hb).1 (show 0 < sc by omega)
            exact ⟨this.1, this.2, by omega⟩
          have ovn : ∀ k, 1 ≤ ov rows t sc k := fun k => by
            induction k with
            | zero => exact Int.le_refl _
            | succ k ih => simp only [ov]; have := mx_l (ov rows t sc k) (pB rows t k / sc + 1); omega
          have o1 : 1 ≤ o := by rw [w2]; exact ovn _
          have wl : ws.length = nBr rows := by rw [w1, wyL_len]
          have ho' : ¬ 20 < ov rows t sc (nBr rows) := by rw [← w2]; exact ho
          have hm' : ¬ ∃ b, b < nBr rows ∧ 99 < (wy rows t sc b).2 := fun h => hm (mf.mpr h)
          have k1 := r2 hg hnf ho' hm' (.ok (riP ws o [d])) (by rw [← w1, ← w2]; exact rinit_ok (by omega) (by omega) hw o1 (by omega) d1 (by omega))
          have k2 := r3 hg hnf ho' hm' (.ex ⟨"InvalidRide", [], []⟩) (by rw [← w1, ← w2]; exact rinit_no (by omega) (by omega) hw o1 (by omega))
          have t1 := told_ok rows t sc [d] (by simp) ws o [d] k1
          have t2 := told_ex rows t sc [0, 0] (by simp) "InvalidRide" "ride" k2 (.inr (.inr ⟨rfl, rfl⟩))
          simp only [List.map_cons, List.map_nil] at t1 t2
          have lf := like_fin ws o d hl
          have en := eq_ts [.tup (ws.map wyP), .int o, .tup [.int d]] (Str.ofString "fit") (by simp [wyP]) fit_ok
          simp [lawEnd, E15, tupleW_loc, doFrzs_map wyP, vws, hl3, lp, n9, n1, q9, hl2, e24, hnp, hdd, f1, t1, t2, lf, en, lg, ho, im, x1, hm, qr]
  · have fe : ¬ fs = [] := fun h => hg (f2.mp h)
    have fl : 0 < fs.length := by
      cases fs with
      | nil => exact (fe rfl).elim
      | cons _ _ => simp
    have tf := told_fit (.inl hg)
    simp [lawEnd, E15, tupleW_loc, doFrzs_map wyP, vws, hl3, lp, n9, n1, q9, hl2, e24, hnp, hdd, f1, fl, tf, fitq, lg]
theorem law_holds (ns : List Int) : m_law [.scr ns] = .ok (.bl true) := by
  obtain ⟨c0, hc0, ec0⟩ := cell_ok ns 0
  obtain ⟨ds, h21, h22, e0⟩ := draws_ok c0 30 hc0 (by omega)
  have hd : Dr ds 30 := ⟨h21, h22⟩
  obtain ⟨rb, lb, erb⟩ := layout_ok hd
  obtain ⟨ra, la, era⟩ := srows_ok hd
  obtain ⟨ta, ha, eta⟩ := strain_ok hd
  obtain ⟨tb, hb, etb⟩ := data_ok hd
  have e20 := hd.at (i := 20) (by omega) (by omega)
  have e21 := hd.at (i := 21) (by omega) (by omega)
  have e22 := hd.at (i := 22) (by omega) (by omega)
  have e23 := hd.at (i := 23) (by omega) (by omega)
  obtain ⟨sc, s1, s2, es⟩ := sc_ex ds (hd.r (by omega) (by omega)) (hd.r (by omega) (by omega))
  simp at ec0 e0
  have main : ∀ (rows : List Seg) (t : Tr), Lay rows → TrOk t → ((sSeq (sFor (iRange1 (aCons (eVar 7) aNil)) (.nm 12) m_law_b1) lawEnd) (E15 ns ds rows t sc 1 false none none none none none) [.lst []]).fin = .ok (.bl true) := fun rows t hl ht => by
    have B := blks_ok hl
    have n2 := hl.n2
    obtain ⟨ws, o, fa, o12, o13, o14, o15, o16, hT, eL⟩ := lw_loop (ns := ns) (ds := ds) B hl ht (sc := sc) (by omega) s2
    have ert : rngOk 0 (nBr rows : Int) = true := rngOk_of (by omega) (by omega) (by omega) (by omega)
    have := end_holds (ns := ns) hd B hl ht s1 s2 ws o fa o12 o13 o14 o15 o16 hT
    have ev : eVar 7 (E15 ns ds rows t sc 1 false none none none none none) [.lst []] = .ok (.val (.int (nBr rows : Nat))) [.lst []] := rfl
    simp only [sSeq_ap, sFor_ap, iRange1_ap, aCons_ap, aNil_ap, ev, rb_ok, rngR1_int, ert, if_true, tr_ok, Int.toNat_natCast, eL, rs_nx, this]
  by_cases c : gi ds 20 % 5 = 0
  · have B := blks_ok lb
    have m := main rb tb lb hb
    have ely := layoutP_ok lb
    have eme := metres_ok lb
    have etr := trainP_ok hb
    obtain ⟨mt, hm1, hm2⟩ := last_blk B lb
    simp only [E15, lawEnd, sSeq_ap] at m
    unfold m_law
    simp [runP_ap, envOf_ap, ec0, e0, era, eta, e20, c, erb, etb, eme, ely, etr, hm1, metP, hm2, e21, e22, e23, es, mulOk_d, mulOk_c, -sFor_ap, m]
  · have B := blks_ok la
    have m := main ra ta la ha
    have ely := layoutP_ok la
    have eme := metres_ok la
    have etr := trainP_ok ha
    obtain ⟨mt, hm1, hm2⟩ := last_blk B la
    simp only [E15, lawEnd, sSeq_ap] at m
    unfold m_law
    simp [runP_ap, envOf_ap, ec0, e0, era, eta, e20, c, eme, ely, etr, hm1, metP, hm2, e21, e22, e23, es, mulOk_d, mulOk_c, -sFor_ap, m]
end Gk15
end
theorem PySem.Challenge.cw_coastersafe_k15_passages_and_rides_of_la_holds : PySem.Challenge.rw_coastersafe_k15_passages_and_rides_of_la.Holds := by
  exact Gk15.ends fun ns _ => Gk15.law_holds ns
