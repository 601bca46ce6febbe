import PyProof.Rows.All
import Wide.All
import OpenK.AllK
import Wide.FinOn
import HandS.Base
import HandS.Call
import HandS.List
import HandS.Comp
import HandS.AnyAll
import HandS.GenOver
import HandS.ForMost
import HandS.ForExc
import HandS.CallSlots
import HandS.IsInst
import HandS.TupAny
import HandS.TupMul
import HandS.Wide
import HandS.WideBits
import HandS.Walk
import HandS.Zip
import HandS.More
import HandS.Defaults
import HandS.TryMany
import HandS.HeadEnd
import HandS.HeadHook1
import HandS.HeadHook2
import HandS.Head0
import HandS.Head1
import HandS.Head2
import KE.KStateDown
import HandS.Style
import HandS.Codes
import HandS.HeadHook4
import HandS.HeadWalk
import HandS.NestedK
import HandS.FStr
import HandS.RaiseMore
import KE.KExcSuper
import HandS.ExcInit
import HandS.Exc
import HandS.ExcIs
import HandS.ExcField
import KE.GoesEnum
import KE.GoesMore
import PySem.Challenge.RW_coastersafe_k71_plays_written_and_read
-- part GX
section
set_option Elab.async false
set_option linter.all false
set_option maxRecDepth 100000
set_option maxHeartbeats 2000000
set_option autoImplicit false
/-! # GX: all, any of a generator expression over any iterable, its test any expression (calls too) -/
namespace GX
open PySem PySem.Spec PyProof.Rows L2

/-- the context of a generator's frame -/
abbrev gcx (X : Cx) (s : Shared) (H : Hp) (cenv : Env) (fp : List Addr) (A' : Around) : Cx :=
  { X with A := A', s_0 := s, H_0 := H, env := cenv, outer := X.stack, stack := cenv :: X.stack, ex := fp, fn := fun _ => false, pn := [], xe := fun _ _ => False }
abbrev gcl (X : Cx) (scope : Scope) : List (Str × Addr) := cloFrom X.env.cells scope.names []
section
variable {X : Cx} {pins : List (Addr × Obj)} {σ : L2.St} {H : Hp} {s : Shared}
theorem gen_start {scope : Scope} {own : List (Str × Nat)} {fp : List Addr} {A' : Around} {code : Value} {h' : Heap} {g' : Array GenState} {t' : Nat} {m : Str → Option Value} (I : Inv X pins σ H s) (ok : BlkOk X.N X.env.scope scope own) (hN : X.N.Nodup)
    (hfp : ∀ b ∈ fp, FpOk X pins H b ∧ b < s.heap.objs.size) (hcell : ∀ y ∈ scope.names, y.2 ≠ .cell) (hA : A'.handled = none) (hfr : A'.frames = some (genEnv scope (gcl X scope) s.heap.objs.size code builtinsNs X.env :: X.stack))
    (hn : h'.Ns s.heap.objs.size m) (kp : ∀ b o, s.heap.get? b = some o → h'.get? b = some o) (hg : AllBare g') :
    Inv (gcx X s H (genEnv scope (gcl X scope) s.heap.objs.size code builtinsNs X.env) fp A') [] (wipe σ (own.map (·.2))) H { s with heap := h', gens := g', toks := t' } := by
  have hfree : ∀ y ∈ scope.names, y.2 = .free → ∃ c, X.env.cells.lookup y.1 = some c := fun y hy e => by
    rcases ok.free y hy e with k | k
    · exact I.ok.has _ (.inl k)
    · exact I.ok.has _ (.inr k)
  have cm : ∀ {y c}, (y, c) ∈ gcl X scope → X.env.cells.lookup y = some c ∧ c < s.heap.objs.size := fun {y c} hm => by
    rcases cloFrom_mem hm with hm | ⟨h1, rfl⟩
    · cases hm
    · obtain ⟨c, hc⟩ := hfree _ h1 rfl
      rw [hc]
      obtain ⟨w, z⟩ := I.cell _ _ hc
      exact ⟨rfl, z.lt⟩
  have mem : ∀ {y c}, (gcl X scope).lookup y = some c → X.env.cells.lookup y = some c ∧ c < s.heap.objs.size := fun {y c} e => cm (PySem.mem_of_lookup e)
  have look : ∀ {y}, scope.names.lookup y = some .free → ∃ c, (gcl X scope).lookup y = some c ∧ X.env.cells.lookup y = some c := fun {y} hl => by
    have hy : (y, NameKind.free) ∈ scope.names := PySem.mem_of_lookup hl
    obtain ⟨c', e'⟩ := mem_lookup (cloFrom_has (cells := X.env.cells) (acc := []) hy)
    exact ⟨c', e', (mem e').1⟩
  generalize hcenv : genEnv scope (gcl X scope) s.heap.objs.size code builtinsNs X.env = cenv at hfr
  have hL : cenv.locals = s.heap.objs.size := by rw [← hcenv]; rfl
  have hcl : cenv.cells = gcl X scope := by rw [← hcenv]; rfl
  have hsc : cenv.scope = scope := by rw [← hcenv]; rfl
  have noc : ∀ {y k}, cenv.kindOf y = some k → k = .cell ∨ k = .free → scope.names.lookup y = some .free := fun {y k} hk h => by
    unfold Env.kindOf at hk
    rw [hsc] at hk
    rcases h with rfl | rfl
    · exact absurd rfl (hcell _ (PySem.mem_of_lookup hk))
    · exact hk
  have okB : (gcx X s H cenv fp A').Ok := by
    refine ⟨I.ok.mod, by show cenv.scope.kind = _; rw [hsc]; exact ok.kind, by show cenv.globals = _; rw [← hcenv]; exact I.ok.glob, by show cenv.builtins = _; rw [← hcenv]; rfl, by show s.heap.objs.size ≤ cenv.locals; rw [hL]; exact Nat.le_refl _,
      fun y z c e1 e2 => ?_, fun y hy => ?_, fun y c z e => ?_, fun _ => hA, hfr, .inr ⟨rfl, by rw [← hcenv]; rfl⟩, fun b hb => ⟨?_, fun y c e z => ?_⟩, I.bs, Nat.le_trans I.ok.bsz I.sz, fun b o e hb => ?_, fun b hb z => ?_, I.stack, I.stkFree⟩
    · have e1 : cenv.cells.lookup y = some c := e1
      have e2 : cenv.cells.lookup z = some c := e2
      rw [hcl] at e1 e2
      exact I.ok.inj y z c (mem e1).1 (mem e2).1
    · show ∃ c, cenv.cells.lookup y = some c
      rw [hcl]
      rcases hy with hy | hy
      · obtain ⟨c, h1, _⟩ := look (noc hy (.inl rfl)); exact ⟨c, h1⟩
      · obtain ⟨c, h1, _⟩ := look (noc hy (.inr rfl)); exact ⟨c, h1⟩
    · cases z
    · show b ≠ cenv.locals
      rw [hL]; exact Nat.ne_of_lt (hfp b hb).2
    · have e : cenv.cells.lookup y = some c := e
      rw [hcl] at e
      exact (hfp b hb).1.2.2.2.2.1 y c (mem e).1 z
    · rcases (hfp b hb).1.2.2.2.1 with z | z
      · exact I.ok.noex b o e z
      · exact absurd (Nat.lt_of_lt_of_le (Heap.lt_size e) (Nat.le_trans I.ok.bsz z)) (Nat.lt_irrefl _)
    · rcases List.mem_cons.mp (I.stkSub b z) with z | z
      · exact (hfp b hb).1.2.1 z
      · exact (hfp b hb).1.2.2.1 z
  refine ⟨okB, rfl, hg, Un.kept kp, ⟨m, ?_, fun i y av e1 e2 e3 => ?_⟩, fun y c e => ?_, ?_, fun y c e => ?_, fun p hp => ?_, I.hok.kept kp, by rw [wipe_length]; exact I.len⟩
  · show Heap.Ns _ cenv.locals _
    rw [hL]
    exact hn
  · obtain ⟨e2, hne⟩ := wipe_some e2
    have e3 : Vis cenv.scope y := e3
    have hfr : scope.names.lookup y = some .free := by
      rw [hsc] at e3
      have no : ∀ k : NameKind, scope.names.lookup y = some k → ¬ (k = .local ∨ k = .cell) := fun k e hh => by
        rcases ok.own _ (PySem.mem_of_lookup e) hh with e' | e'
        · obtain ⟨p, hp, hpy⟩ := List.mem_map.mp e'
          have e3 := ok.ix p hp
          have : p.1 = y := hpy
          rw [this] at e3
          exact hne (List.mem_map.mpr ⟨p, hp, nodup_ix hN e3 e1⟩)
        · exact e' (List.mem_of_getElem? e1)
      rcases e3 with e3 | e3 | e3
      · exact absurd (.inl rfl) (no _ e3)
      · exact absurd (.inr rfl) (no _ e3)
      · exact e3
    obtain ⟨m, hn, hl⟩ := I.loc
    have hvis : Vis X.env.scope y := (ok.free _ (PySem.mem_of_lookup hfr) rfl).elim (fun k => .inr (.inl k)) (fun k => .inr (.inr k))
    obtain ⟨w, r, q⟩ := hl i y av e1 e2 hvis
    have hk : cenv.kindOf y = some .free := by unfold Env.kindOf; rw [hsc]; exact hfr
    refine ⟨w, r, .inr ⟨.inr hk, ?_⟩⟩
    obtain ⟨c, h1, h2⟩ := look hfr
    rcases q with ⟨k, _⟩ | ⟨_, c', e', z⟩
    · have k : X.env.scope.names.lookup y = some .local := k
      rcases ok.free _ (PySem.mem_of_lookup hfr) rfl with k' | k' <;> rw [show X.env.scope.names.lookup y = _ from k'] at k <;> cases k
    · rw [h2] at e'; cases e'
      exact ⟨c, by show cenv.cells.lookup y = _; rw [hcl]; exact h1, z.keeps kp⟩
  · have e : cenv.cells.lookup y = some c := e
    rw [hcl] at e
    obtain ⟨w, z⟩ := I.cell y c (mem e).1
    exact ⟨w, z.keeps kp⟩
  · show H cenv.locals = none
    rw [hL]; exact I.hok.fresh (Nat.le_refl _)
  · have e : cenv.cells.lookup y = some c := e
    rw [hcl] at e
    exact I.freeC y c (mem e).1
  · exact absurd (show p ∈ ([] : List (Addr × Obj)) ++ [] from hp) (by simp)
end

/-- the iterable's items walked, the tests told one after another: sb, the value at which the walk stops -/
structure WalkG (J : It) (g : TG) (te : TE) (σw : L2.St) (vs : List Nat) (sb : Bool) (Q : VK) (W : Nat → Nat → Hp → Prop) : Prop where
  turn : ∀ i m H, W i m H → (J.stop i H ∧ Q (.bl (!sb)) H) ∨ (J.go i H ∧ ∀ x H', J.yld i H x H' → g x σw H' fun σ2 H2 => wipe σ2 vs = σw ∧ te σ2 H2 fun y H3 => ∃ k, y = .bl k ∧
    ((k = sb ∧ Q (.bl sb) H3) ∨ (k = !sb ∧ ∃ m', m' < m ∧ W (i + 1) m' H3)))
/-- what a generator's turn gives -/
def Yp (gX : Cx) (pn : List (Addr × Obj)) (σw : L2.St) (sb : Bool) (Q : VK) : Protocol := fun _ _ v s₁ kap => ∃ k : Bool, v = .bool k ∧
  ((k = sb ∧ ∃ H', Inv gX pn σw H' s₁ ∧ Q (.bl sb) H') ∨ (k = !sb ∧ (∃ H', Inv gX pn σw H' s₁) ∧ ∀ s'' : Shared, s''.heap = s₁.heap → s''.os = s₁.os → AllBare s''.gens → kap (.send .none) s''))
def Rp (gX : Cx) (pn : List (Addr × Obj)) (σw : L2.St) (sb : Bool) (Q : VK) : Nat → Shared → Shared → Prop := fun _ _ s₁ => ∃ H', Inv gX pn σw H' s₁ ∧ Q (.bl (!sb)) H'
theorem inv_gens {X : Cx} {pins : List (Addr × Obj)} {σ : L2.St} {H : Hp} {s s' : Shared} (I : Inv X pins σ H s) (h : s'.heap = s.heap) (ho : s'.os = s.os) (hg : AllBare s'.gens) : Inv X pins σ H s' :=
  ⟨I.ok, ho.trans I.os, hg, by rw [h]; exact I.base, by rw [h]; exact I.loc, by rw [h]; exact I.cell, I.free, I.freeC, by rw [h]; exact I.pin, by rw [h]; exact I.hok, I.len⟩
section
variable {gX : Cx} {Ag : Around} {elt tg iter : Expr} {scope : Scope} {pos : Pos} {it : Addr} {cenv : Env} {J : It} {fp : List Addr} {tn : Nat → Heap → Prop} {g : TG} {te : TE} {σw : L2.St} {vs : List Nat} {sb : Bool} {Q : VK} {W : Nat → Nat → Hp → Prop} {pn : List (Addr × Obj)}
theorem seg_loop (hA : gX.A = Ag.over (.compLoop (.GeneratorExp elt [⟨tg, iter, [], 0⟩] scope pos) 0 (.ref it) .none cenv) []) (he : gX.env = cenv) (hx : gX.xe = fun _ _ => False) (hco : cenv.scope.isCoroutine = false) (T : Turn gX.prog gX.w gX.K tg J fp it tn) (hc : gX.calm = true)
    (hfp : ∀ b ∈ fp, b ≠ gX.env.locals ∧ b ∉ gX.fs ∧ b ∈ gX.ex ∧ (∀ x c, gX.env.cells.lookup x = some c → c ≠ b) ∧ ∀ p ∈ gX.pn ++ pn, p.1 ≠ b)
    (hl : σw.length = gX.N.length) (hw : wipe σw vs = σw) (hwl : ∀ σ : L2.St, (wipe σ vs).length = σ.length)
    (pg : PG gX tg g) (pe : PE gX elt te) (Wk : WalkG J g te σw vs sb Q W) :
    ∀ (n i m : Nat) (s₀ s : Shared) (H : Hp), m < n → Inv gX pn σw H s → tn i s.heap → (∀ b ∈ fp, H b = none) → W i m H →
      Seg (model gX.prog gX.w) Ag (fun n s₀ r s₁ => r = .ok .next ∧ Rp gX pn σw sb Q n s₀ s₁) (Yp gX pn σw sb Q) n s₀
        (.compLoop (.GeneratorExp elt [⟨tg, iter, [], 0⟩] scope pos) 0 (.ref it) .none cenv)
        ((model gX.prog gX.w).den (.compLoop (.GeneratorExp elt [⟨tg, iter, [], 0⟩] scope pos) 0 (.ref it) .none cenv)) [] s := by
  have fok : ∀ {H : Hp}, (∀ b ∈ fp, H b = none) → ∀ b ∈ fp, FpOk gX pn H b := fun hn b hb => ⟨hn b hb, (hfp b hb).1, (hfp b hb).2.1, .inl (hfp b hb).2.2.1, (hfp b hb).2.2.2.1, (hfp b hb).2.2.2.2⟩
  intro n
  induction n with
  | zero => intro i m s₀ s H hm; exact absurd hm (Nat.not_lt_zero _)
  | succ n ih =>
    intro i m s₀ s H hm I st hn w
    show Seg _ Ag _ _ _ s₀ _ ((compTurn (.GeneratorExp elt [⟨tg, iter, [], 0⟩] scope pos) 0 (.ref it) .none cenv).onRaise (leaving cenv)) [] s
    rw [compTurn_gen, Sem.onRaise_eq_wrap]
    refine seg_bind_wrap (wpAny_standAt ?_)
    rcases Wk.turn i m H w with ⟨stop, q⟩ | ⟨go, step⟩
    · have td := T.done gX rfl rfl rfl hc i pn s _ H (fun _ _ => False) I (fok hn) st stop
      rw [hA] at td
      refine seg_bind_wrap (thnF td fun r s1 ⟨hr, I1⟩ => ?_)
      subst hr
      exact seg_end (.ok .next) ⟨rfl, H, I1, q⟩
    · have ti := T.item gX rfl rfl rfl hc i pn s _ H (fun _ _ => False) I (fok hn) st go
      rw [hA] at ti
      refine seg_bind_wrap (thnF ti fun r s1 ⟨u, hr, h1⟩ => ?_)
      subst hr
      refine seg_bind_wrap (thnF h1 fun _ s2 ⟨x, H2, I2, r2, y2, st2, n2⟩ => ?_)
      have I2' := I2.pinned (fok n2) (T.obj _ _ st2)
      have pg2 := pg.run _ s2 _ H2 x u _ I2' r2 (step x H2 y2)
      rw [hA, he, hx] at pg2
      refine seg_bind_wrap (thnF pg2 fun _ s3 ⟨σ3, H3, I3, hw3, q3⟩ => ?_)
      refine seg_bind_wrap (wpAny_tests_nil ?_)
      simp only [if_true]
      have hy : ∀ v, yieldOut cenv v = yieldValue v := fun v => by simp only [yieldOut, hco, Bool.false_eq_true, if_false]
      simp only [hy]
      rw [Sem.bind_eq_wrap', Sem.bind_eq_wrap', Sem.wrap_wrap, Sem.wrap_wrap]
      have pe2 := pe.run _ s3 σ3 H3 _ I3 q3
      rw [hA, he, hx] at pe2
      refine seg_wrap (thnF pe2 fun y s4 ⟨yv, H4, I4, r4, k, hk, q4⟩ => ?_)
      subst hk
      have r4 : y = .bool k := r4
      subst r4
      have pin' : ∀ b ∈ fp, ∀ o, s2.heap.get? b = some o → s4.heap.get? b = some o ∧ H4 b = none := fun b hb o e =>
        let z := I4.pin (b, o) (List.mem_append_right _ (List.mem_append_right _ (mem_pinsAt hb e)))
        ⟨z.1, z.2.1⟩
      have I5 : Inv gX pn σw H4 s4 := (I4.unpinned (pins := pn)).weak (by rw [← hw3, hwl]) fun j v e => by
        rw [← hw3] at e
        exact (wipe_some e).1
      refine seg_at (seg_yield rfl rfl rfl ⟨k, rfl, ?_⟩)
      rcases q4 with ⟨hk, q4⟩ | ⟨hk, m', hm', w'⟩
      · exact .inl ⟨hk, H4, I5, q4⟩
      · refine .inr ⟨hk, ⟨H4, I5⟩, fun s'' h1 h2 h3 => ?_⟩
        refine seg_again rfl (ih (i + 1) m' s'' s'' H4 (by omega) (inv_gens I5 h1 h2 h3) ?_ (fun b hb => ?_) w')
        · rw [h1]
          exact T.keep _ _ _ st2 fun b hb o e => (pin' b hb o e).1
        · obtain ⟨o, e, _⟩ := T.obj _ _ st2 b hb
          exact (pin' b hb o e).2
/-- the generator's first turn -/
theorem seg_start (hA : gX.A = Ag.over (.compLoop (.GeneratorExp elt [⟨tg, iter, [], 0⟩] scope pos) 0 (.ref it) .none cenv) []) (he : gX.env = cenv) (hx : gX.xe = fun _ _ => False) (hco : cenv.scope.isCoroutine = false) (T : Turn gX.prog gX.w gX.K tg J fp it tn) (hc : gX.calm = true)
    (hfp : ∀ b ∈ fp, b ≠ gX.env.locals ∧ b ∉ gX.fs ∧ b ∈ gX.ex ∧ (∀ x c, gX.env.cells.lookup x = some c → c ≠ b) ∧ ∀ p ∈ gX.pn ++ pn, p.1 ≠ b)
    (hl : σw.length = gX.N.length) (hw : wipe σw vs = σw) (hwl : ∀ σ : L2.St, (wipe σ vs).length = σ.length)
    (pg : PG gX tg g) (pe : PE gX elt te) (Wk : WalkG J g te σw vs sb Q W) (n m : Nat) (s₀ s : Shared) (H : Hp) (hm : m < n) (I : Inv gX pn σw H s) (st : tn 0 s.heap) (hn : ∀ b ∈ fp, H b = none) (w : W 0 m H) :
      Seg (model gX.prog gX.w) Ag (fun n s₀ r s₁ => r = .ok .next ∧ Rp gX pn σw sb Q n s₀ s₁) (Yp gX pn σw sb Q) n s₀
        (.compStart (.GeneratorExp elt [⟨tg, iter, [], 0⟩] scope pos) 0 (.ref it) .none cenv)
        ((model gX.prog gX.w).den (.compStart (.GeneratorExp elt [⟨tg, iter, [], 0⟩] scope pos) 0 (.ref it) .none cenv)) [] s := by
  have loop := seg_loop hA he hx hco T hc hfp hl hw hwl pg pe Wk n 0 m s₀ s H hm I st hn w
  show Seg _ Ag _ _ _ s₀ _ ((compStart (.GeneratorExp elt [⟨tg, iter, [], 0⟩] scope pos) 0 (.ref it) .none cenv).onRaise (leaving cenv)) [] s
  unfold compStart
  rw [Sem.onRaise_eq_wrap]
  show Seg _ Ag _ _ _ s₀ _ ((ask >>= _).wrap _ _ _ _) [] s
  refine seg_bind_wrap (wpAny_askSetting ?_)
  split
  · exact seg_again rfl loop
  · first
      | exact seg_bind_wrap (wpAny_rule (seg_bind_wrap (wpAny_standAt (seg_bind_wrap (T.self _ 0 s _ _ st (seg_again rfl loop))))))
      | (refine seg_bind_wrap (wpAny_rule ?_); show Seg _ Ag _ _ _ s₀ _ ((standAt iter.pos >>= _).wrap _ _ _ _) [] s; exact seg_bind_wrap (wpAny_standAt (seg_bind_wrap (T.self _ 0 s _ _ st (seg_again rfl loop)))))
end
/-- all(..), any(..): the loop over the generator at a -/
theorem all_loop {gX : Cx} {A : Around} {a : Addr} {gn : Nat} {go : Obj} {nm qn : Value} {σw : L2.St} {Q : VK} {R : Result → Shared → Prop} (hh : A.handled = none) (hroom : A.depth < recursionLimit)
    (hgo : go.cls = .type "generator" ∧ go.data = .fields #[.int gn 0, nm, qn] ∧ go.slots = #[])
    (hR : ∀ (b : Bool) (s' : Shared) (H' : Hp), Inv gX [(a, go)] σw H' s' → Q (.bl b) H' → R (.ok (.ret (.bool b))) s') :
    ∀ (n : Nat) (s : Shared) (gs : GenState) (H : Hp), Inv gX [(a, go)] σw H s → s.gens[gn]? = some gs →
      gs.Goes (model gX.prog gX.w) A.in1.in1 (fun n s₀ r s₁ => r = .ok .next ∧ Rp gX [(a, go)] σw false Q n s₀ s₁) (Yp gX [(a, go)] σw false Q) n (.send .none) (s.setGen gn .running) →
      codeAny (model gX.prog gX.w) A (.builtin "all.loop" ⟨[.ref a], []⟩) R s := by
  have isg : ∀ {H : Hp} {s : Shared}, Inv gX [(a, go)] σw H s → s.heap.IsGen a gn := fun I => ⟨go, nm, qn, (I.pin (a, go) (List.mem_append_right _ (List.mem_singleton.mpr rfl))).1, hgo.1, hgo.2.1, hgo.2.2⟩
  have bset : ∀ {s : Shared} {x : GenState}, AllBare s.gens → x.bare = true → AllBare (s.setGen gn x).gens := fun {s x} hb hx y hy => by
    have hy : y ∈ s.gens.setIfInBounds gn x := hy
    obtain ⟨i, hi, rfl⟩ := Array.mem_iff_getElem.mp hy
    rw [Array.getElem_setIfInBounds]
    split
    · exact hx
    · exact hb _ (Array.getElem_mem _)
    rw [Array.size_setIfInBounds] at hi; exact hi
  have getset : ∀ {s : Shared} {x y : GenState}, s.gens[gn]? = some y → (s.setGen gn x).gens[gn]? = some x := fun h => setGen_self h
  intro n
  induction n with
  | zero =>
    intro s gs H I hgs hgo'
    refine codeAny_builtin F.entry_all_loop ?_
    rw [Around.under_plainId F.plain_all_loop _]
    show wpAny _ A.in1 (pyNext (.ref a) >>= _) _ _ s
    refine wpAny_bind (GenW.wpAny_gsz (Nat.le_refl _) (wpAny_pyNext_genexpQ (A := A.in1) hh I.nolimit hroom (isg I) hgs hgo' (fun v s₁ gs' hb hv hsz => ?_) (fun s₁ hp h' hk hsz => ?_)))
    · obtain ⟨k, rfl, ⟨rfl, H', I', q⟩ | ⟨rfl, ⟨H', I'⟩, kap⟩⟩ := hv
      · refine wpAny_bind (wpAny_holding (wpAny_truthy_bool ?_))
        refine wpAny_bind (wpAny_letGo ?_)
        simp only [Bool.false_eq_true, if_false]
        refine wpAny_bind (wpAny_rule (wpAny_pure ?_))
        exact hR _ _ H' (inv_gens I' rfl rfl (bset I'.bare hb)) q
      · exact (kap s₁ rfl rfl I'.bare).elim
    · obtain ⟨H', I', q⟩ := hp
      refine wpAny_bind (wpAny_rule (wpAny_pure ?_))
      refine hR _ _ H' ?_ q
      exact inv_gens (I'.kept (t' := s₁.toks) (h' := h') fun b u e => hk b u e) rfl rfl (bset I'.bare rfl)
  | succ n ih =>
    intro s gs H I hgs hgo'
    refine codeAny_builtin F.entry_all_loop ?_
    rw [Around.under_plainId F.plain_all_loop _]
    show wpAny _ A.in1 (pyNext (.ref a) >>= _) _ _ s
    refine wpAny_bind (GenW.wpAny_gsz (Nat.le_refl _) (wpAny_pyNext_genexpQ (A := A.in1) hh I.nolimit hroom (isg I) hgs hgo' (fun v s₁ gs' hb hv hsz => ?_) (fun s₁ hp h' hk hsz => ?_)))
    · obtain ⟨k, rfl, ⟨rfl, H', I', q⟩ | ⟨rfl, ⟨H', I'⟩, kap⟩⟩ := hv
      · refine wpAny_bind (wpAny_holding (wpAny_truthy_bool ?_))
        refine wpAny_bind (wpAny_letGo ?_)
        simp only [Bool.false_eq_true, if_false]
        refine wpAny_bind (wpAny_rule (wpAny_pure ?_))
        exact hR _ _ H' (inv_gens I' rfl rfl (bset I'.bare hb)) q
      · refine wpAny_bind (wpAny_holding (wpAny_truthy_bool ?_))
        refine wpAny_bind (wpAny_letGo ?_)
        simp only [Bool.not_false, if_true]
        refine wpAny_pure ⟨plainId_quiet F.plain_all_loop _, ih _ gs' H' (inv_gens I' rfl rfl (bset I'.bare hb)) ?_ ?_⟩
        · have hlt : gn < s.gens.size := (Array.getElem?_eq_some_iff.mp hgs).1
          have hlt2 : gn < s₁.gens.size := by
            have : (s₁.setGen gn gs').gens.size = s₁.gens.size := Array.size_setIfInBounds
            omega
          show (s₁.gens.setIfInBounds gn gs')[gn]? = _
          simp [hlt2]
        · exact kap _ rfl rfl (bset (bset I'.bare hb) rfl)
    · obtain ⟨H', I', q⟩ := hp
      refine wpAny_bind (wpAny_rule (wpAny_pure ?_))
      refine hR _ _ H' ?_ q
      exact inv_gens (I'.kept (t' := s₁.toks) (h' := h') fun b u e => hk b u e) rfl rfl (bset I'.bare rfl)
/-- all(..), any(..): the loop over the generator at a -/
theorem any_loop {gX : Cx} {A : Around} {a : Addr} {gn : Nat} {go : Obj} {nm qn : Value} {σw : L2.St} {Q : VK} {R : Result → Shared → Prop} (hh : A.handled = none) (hroom : A.depth < recursionLimit)
    (hgo : go.cls = .type "generator" ∧ go.data = .fields #[.int gn 0, nm, qn] ∧ go.slots = #[])
    (hR : ∀ (b : Bool) (s' : Shared) (H' : Hp), Inv gX [(a, go)] σw H' s' → Q (.bl b) H' → R (.ok (.ret (.bool b))) s') :
    ∀ (n : Nat) (s : Shared) (gs : GenState) (H : Hp), Inv gX [(a, go)] σw H s → s.gens[gn]? = some gs →
      gs.Goes (model gX.prog gX.w) A.in1.in1 (fun n s₀ r s₁ => r = .ok .next ∧ Rp gX [(a, go)] σw true Q n s₀ s₁) (Yp gX [(a, go)] σw true Q) n (.send .none) (s.setGen gn .running) →
      codeAny (model gX.prog gX.w) A (.builtin "any.loop" ⟨[.ref a], []⟩) R s := by
  have isg : ∀ {H : Hp} {s : Shared}, Inv gX [(a, go)] σw H s → s.heap.IsGen a gn := fun I => ⟨go, nm, qn, (I.pin (a, go) (List.mem_append_right _ (List.mem_singleton.mpr rfl))).1, hgo.1, hgo.2.1, hgo.2.2⟩
  have bset : ∀ {s : Shared} {x : GenState}, AllBare s.gens → x.bare = true → AllBare (s.setGen gn x).gens := fun {s x} hb hx y hy => by
    have hy : y ∈ s.gens.setIfInBounds gn x := hy
    obtain ⟨i, hi, rfl⟩ := Array.mem_iff_getElem.mp hy
    rw [Array.getElem_setIfInBounds]
    split
    · exact hx
    · exact hb _ (Array.getElem_mem _)
    rw [Array.size_setIfInBounds] at hi; exact hi
  have getset : ∀ {s : Shared} {x y : GenState}, s.gens[gn]? = some y → (s.setGen gn x).gens[gn]? = some x := fun h => setGen_self h
  intro n
  induction n with
  | zero =>
    intro s gs H I hgs hgo'
    refine codeAny_builtin F.entry_any_loop ?_
    rw [Around.under_plainId F.plain_any_loop _]
    show wpAny _ A.in1 (pyNext (.ref a) >>= _) _ _ s
    refine wpAny_bind (GenW.wpAny_gsz (Nat.le_refl _) (wpAny_pyNext_genexpQ (A := A.in1) hh I.nolimit hroom (isg I) hgs hgo' (fun v s₁ gs' hb hv hsz => ?_) (fun s₁ hp h' hk hsz => ?_)))
    · obtain ⟨k, rfl, ⟨rfl, H', I', q⟩ | ⟨rfl, ⟨H', I'⟩, kap⟩⟩ := hv
      · refine wpAny_bind (wpAny_holding (wpAny_truthy_bool ?_))
        refine wpAny_bind (wpAny_letGo ?_)
        simp only [if_true]
        refine wpAny_bind (wpAny_rule (wpAny_pure ?_))
        exact hR _ _ H' (inv_gens I' rfl rfl (bset I'.bare hb)) q
      · exact (kap s₁ rfl rfl I'.bare).elim
    · obtain ⟨H', I', q⟩ := hp
      refine wpAny_bind (wpAny_rule (wpAny_pure ?_))
      refine hR _ _ H' ?_ q
      exact inv_gens (I'.kept (t' := s₁.toks) (h' := h') fun b u e => hk b u e) rfl rfl (bset I'.bare rfl)
  | succ n ih =>
    intro s gs H I hgs hgo'
    refine codeAny_builtin F.entry_any_loop ?_
    rw [Around.under_plainId F.plain_any_loop _]
    show wpAny _ A.in1 (pyNext (.ref a) >>= _) _ _ s
    refine wpAny_bind (GenW.wpAny_gsz (Nat.le_refl _) (wpAny_pyNext_genexpQ (A := A.in1) hh I.nolimit hroom (isg I) hgs hgo' (fun v s₁ gs' hb hv hsz => ?_) (fun s₁ hp h' hk hsz => ?_)))
    · obtain ⟨k, rfl, ⟨rfl, H', I', q⟩ | ⟨rfl, ⟨H', I'⟩, kap⟩⟩ := hv
      · refine wpAny_bind (wpAny_holding (wpAny_truthy_bool ?_))
        refine wpAny_bind (wpAny_letGo ?_)
        simp only [if_true]
        refine wpAny_bind (wpAny_rule (wpAny_pure ?_))
        exact hR _ _ H' (inv_gens I' rfl rfl (bset I'.bare hb)) q
      · refine wpAny_bind (wpAny_holding (wpAny_truthy_bool ?_))
        refine wpAny_bind (wpAny_letGo ?_)
        simp only [Bool.not_true, Bool.false_eq_true, if_false]
        refine wpAny_pure ⟨plainId_quiet F.plain_any_loop _, ih _ gs' H' (inv_gens I' rfl rfl (bset I'.bare hb)) ?_ ?_⟩
        · have hlt : gn < s.gens.size := (Array.getElem?_eq_some_iff.mp hgs).1
          have hlt2 : gn < s₁.gens.size := by
            have : (s₁.setGen gn gs').gens.size = s₁.gens.size := Array.size_setIfInBounds
            omega
          show (s₁.gens.setIfInBounds gn gs')[gn]? = _
          simp [hlt2]
        · exact kap _ rfl rfl (bset (bset I'.bare hb) rfl)
    · obtain ⟨H', I', q⟩ := hp
      refine wpAny_bind (wpAny_rule (wpAny_pure ?_))
      refine hR _ _ H' ?_ q
      exact inv_gens (I'.kept (t' := s₁.toks) (h' := h') fun b u e => hk b u e) rfl rfl (bset I'.bare rfl)

theorem wipe_set (σ : L2.St) (v : Nat) : ∀ vs : List Nat, wipe (σ.set v none) vs = (wipe σ vs).set v none
  | [] => rfl
  | w :: vs => by
    show (wipe (σ.set v none) vs).set w none = ((wipe σ vs).set w none).set v none
    rw [wipe_set σ v vs]
    by_cases h : v = w
    · subst h; rfl
    · rw [List.set_comm _ _ h]
theorem wipe_wipe (σ : L2.St) : ∀ vs : List Nat, wipe (wipe σ vs) vs = wipe σ vs
  | [] => rfl
  | v :: vs => by
    show (wipe ((wipe σ vs).set v none) vs).set v none = (wipe σ vs).set v none
    rw [wipe_set, wipe_wipe σ vs, List.set_set]
/-- all(test for target in iterable), any(..) -/
def tAG (P : Addr) (wi : TI) (g : TG) (te : TE) (vs : List Nat) (sb : Bool) : TE := fun σ H Q => wi σ H fun J H1 => GxR.TabG H1 P ∧ ∀ H2, GxR.Tabbed P H1 H2 → ∃ W : Nat → Nat → Hp → Prop, (∃ m, W 0 m H2) ∧ WalkG J g te (wipe σ vs) vs sb Q W

theorem bare_set {s : Shared} {gn : Nat} {x : GenState} (hb : AllBare s.gens) (hx : x.bare = true) : AllBare (s.setGen gn x).gens := fun y hy => by
  have hy : y ∈ s.gens.setIfInBounds gn x := hy
  obtain ⟨i, hi, rfl⟩ := Array.mem_iff_getElem.mp hy
  rw [Array.getElem_setIfInBounds]
  split
  · exact hx
  · exact hb _ (Array.getElem_mem _)
  rw [Array.size_setIfInBounds] at hi; exact hi

theorem pe_all {X : Cx} {c P : Addr} {elt tg iter : Expr} {p pos gpos : Pos} {scope : Scope} {own : List (Str × Nat)} {wi : TI} {g : TG} {te : TE} {k : Nat}
    (hr : Room (k + 1) X.A) (hc : X.calm = true) (hN : X.N.Nodup) (hg : Gl X "all") (hm : X.mg "all" = none) (TB : GxR.TabB X.base X.mg c P) (hcode : X.env.code = .ref c) (hi : PI X tg iter wi) (ok : BlkOk X.N X.env.scope scope own)
    (hcell : ∀ y ∈ scope.names, y.2 ≠ .cell) (hco : scope.isCoroutine = false) (h0 : scope.names.lookup (".0" : Str) = some NameKind.local)
    (hG : ∀ (s : Shared) (H : Hp) (C : Addr) (code : Value) (fp : List Addr) (A' : Around), Room k A' → PG (gcx X s H (genEnv scope (gcl X scope) C code builtinsNs X.env) fp A') tg g)
    (hE : ∀ (s : Shared) (H : Hp) (C : Addr) (code : Value) (fp : List Addr) (A' : Around), Room k A' → PE (gcx X s H (genEnv scope (gcl X scope) C code builtinsNs X.env) fp A') elt te)
    (hs : ∀ v, genFold iter X.env v = pure v)
    (he : starEach [.GeneratorExp elt [⟨tg, iter, [], 0⟩] scope gpos] X.env = (false, eval (.GeneratorExp elt [⟨tg, iter, [], 0⟩] scope gpos) X.env) :: starEach [] X.env := by rfl) :
    PE X (.Call (.Name "all" p) [.GeneratorExp elt [⟨tg, iter, [], 0⟩] scope gpos] [] pos) (tAG P wi g te (own.map (·.2)) false) := by
  refine ⟨fun pins s σ H Q I h => ?_⟩
  refine wpAny_Call_Name_kw (ld_blt I hg hm boot_all ?_)
  refine PyProof.Rows.callWith_builtin1 ?_ he (by rfl)
  rw [he]
  show wpAny _ _ (spliced ((false, eval (.GeneratorExp elt [⟨tg, iter, [], 0⟩] scope gpos) X.env) :: backTo pos (starEach [] X.env))) _ _ s
  have hfree : ∀ y ∈ scope.names, y.2 = .free → ∃ c, X.env.cells.lookup y.1 = some c := fun y hy e => by
    rcases ok.free y hy e with k | k
    · exact I.ok.has _ (.inl k)
    · exact I.ok.has _ (.inr k)
  refine Calls.spliced_cons (wpAny_GeneratorExp_make hco (closure_ok hfree) hcell h0 ok.kind (by have := hr.dp; omega) ?_ hs)
  refine thn (hi.run pins s σ H _ I h) fun xv s1 h1 => thn h1 fun itv s2 h2 => ?_
  obtain ⟨it, fp, tn, J, H1, rfl, I2, T, st2, f2, htab, q⟩ := h2
  refine ⟨I2.nolimit, ?_⟩
  obtain ⟨ps, hP, ht⟩ := htab
  have hPs : s2.heap.get? P = some { cls := .none, data := .fields ps } := I2.hok P _ hP
  have cd : PySem.W.CodeHd s2.heap c P := TB.code.keeps fun b u e => I2.bk b u e
  have cont : ∀ (code : Value) (h3 : Heap) (tk : Nat) (ps' : Array Value), Heap.ExtBut P s2.heap h3 → s2.heap.objs.size ≤ h3.objs.size → h3.get? P = some { cls := .none, data := .fields ps' } → (∃ more, ps' = ps ++ more) → TriplesOk ps'.toList →
      wpAny (model X.prog X.w) X.A (builtinsFor X.env.globals X.env.builtins) (fun bi s₄ => ∀ h', h'.Ns s₄.heap.objs.size (fun y => if y = ".0" then some (.ref it) else none) → Heap.SameBut s₄.heap.objs.size (s₄.heap.push { cls := .type "frame", data := .dict #[] }) h' →
        wpAny (model X.prog X.w) X.A (spliced (backTo pos (starEach [] X.env))) (fun vs s₁ => wpAny (model X.prog X.w) X.A (call (.builtin "all") (.ref h'.objs.size :: vs)) (EP X pins σ Q) X.xe s₁) X.xe { s₄ with
            gens := s₄.gens.push (.fresh (.compStart (.GeneratorExp elt [⟨tg, iter, [], 0⟩] scope gpos) 0 (.ref it) .none (genEnv scope (gcl X scope) s₄.heap.objs.size code bi X.env))),
            toks := s₄.toks + 1 + 1 + 1,
            heap := h'.push { cls := .type "generator", data := .fields #[.int s₄.gens.size 0, .str "<genexpr>" (s₄.toks + 1), .str (X.env.qual ++ "<genexpr>") (s₄.toks + 1 + 1)] } }) X.xe { s2 with heap := h3, toks := tk } := by
    intro code h3 tk ps' hx hsz hP3 hmore ht3
    obtain ⟨more, em⟩ := hmore
    obtain ⟨bm, ob, e1, e2, e3, e4, e5, e6, e7, e8⟩ := TB.bm
    refine wpAny_builtinsFor (m := X.mg) (by rw [I2.ok.glob]; exact (I2.mod.glob.keeps I2.bk).extBut hx TB.gP) e1 e2 (hx _ _ e4 (I2.bk _ _ e5)) e6 e7 e8 ?_
    -- the state ahead of the generator
    have I3 : Inv X pins σ (upd H1 P (.tbl ps')) { s2 with heap := h3, toks := tk } := by
      rw [em]
      exact GxR.inv_tab (g' := s2.gens) (d' := s2.drawn) I2 hP (fun b o hb e => hx b o hb e) (by rw [← em]; exact hP3) I2.bare
    have hT2 : GxR.Tabbed P H1 (upd H1 P (.tbl ps')) := ⟨⟨ps', upd_same, ht3⟩, fun b hb => upd_ne hb⟩
    obtain ⟨W, ⟨m0, w0⟩, Wk⟩ := q _ hT2
    have fpP : ∀ b ∈ fp, b ≠ P := fun b hb z => by
      have := (f2 b hb).1
      rw [z, hP] at this; cases this
    have st3 : tn 0 h3 := T.keep _ _ _ st2 fun b hb o e => hx b o (fpP b hb) e
    intro h' hn' hs'
    have hn' : h'.Ns h3.objs.size (fun y => if y = ".0" then some (.ref it) else none) := hn'
    have hs' : Heap.SameBut h3.objs.size (h3.push { cls := .type "frame", data := .dict #[] }) h' := hs'
    have hsz' : h'.objs.size = h3.objs.size + 1 := by rw [hs'.1, Heap.size_push]
    have keep' : ∀ b o, h3.get? b = some o → h'.get? b = some o := fun b o e => hs'.extBut b o (Nat.ne_of_lt (Heap.lt_size e)) (Heap.get?_push_of_some _ e)
    generalize hgo : ({ cls := .type "generator", data := .fields #[.int s2.gens.size 0, .str "<genexpr>" (tk + 1), .str (X.env.qual ++ "<genexpr>") (tk + 1 + 1)] } : Obj) = go
    generalize hs4 : ({ s2 with heap := h3, toks := tk } : Shared) = s4 at I3
    have e4h : s4.heap = h3 := by rw [← hs4]
    have e4o : s4.os = s2.os := by rw [← hs4]
    have e4g : s4.gens = s2.gens := by rw [← hs4]
    generalize hH2 : upd H1 P (.tbl ps') = H2 at I3 w0
    have n2 : ∀ b ∈ fp, H2 b = none := fun b hb => by rw [← hH2, upd_ne (fpP b hb)]; exact (f2 b hb).1
    have sz2 : ∀ b ∈ fp, b < s4.heap.objs.size := fun b hb => by
      obtain ⟨o, e, _⟩ := T.obj _ _ st3 b hb
      rw [e4h]; exact Heap.lt_size e
    have f3 : ∀ b ∈ fp, FpOk X pins H2 b ∧ b < s4.heap.objs.size := fun b hb => ⟨⟨n2 b hb, (f2 b hb).2⟩, sz2 b hb⟩
    generalize hce : genEnv scope (gcl X scope) h3.objs.size code builtinsNs X.env = cenv
    generalize hA : X.A.in1.in1.over (.compLoop (.GeneratorExp elt [⟨tg, iter, [], 0⟩] scope gpos) 0 (.ref it) .none cenv) [] = A'
    have hA1 : A'.handled = none := by rw [← hA]; exact hr.hd
    have hA2 : A'.frames = some (cenv :: X.stack) := by
      rw [← hA]
      show pushEnvs [cenv] X.A.frames = _
      rw [I2.ok.frames]; rfl
    have hA3 : Room k A' := by
      refine ⟨hA1, ?_, ?_⟩
      · have := hr.dp
        rw [← hA]
        show X.A.depth + 1 + 3 * k + 5 < recursionLimit
        omega
      · have := hr.un
        rw [← hA]
        show X.A.units + 1 + 1 + 3 + 16 * k + 200 < cLine
        omega
    have keep5 : ∀ b o, s4.heap.get? b = some o → (h'.push go).get? b = some o := fun b o e => Heap.get?_push_of_some _ (keep' b o (by rw [← e4h]; exact e))
    have gbare : AllBare (s2.gens.push (.fresh (.compStart (.GeneratorExp elt [⟨tg, iter, [], 0⟩] scope gpos) 0 (.ref it) .none cenv))) := I2.bare.push rfl
    have I5 : Inv (gcx X s4 H2 cenv fp A') [] (wipe σ (own.map (·.2))) H2 { s4 with heap := h'.push go, gens := s2.gens.push (.fresh (.compStart (.GeneratorExp elt [⟨tg, iter, [], 0⟩] scope gpos) 0 (.ref it) .none cenv)), toks := tk + 1 + 1 + 1 } := by
      have z := gen_start (code := code) (A' := A') (h' := h'.push go) (g' := s2.gens.push (.fresh (.compStart (.GeneratorExp elt [⟨tg, iter, [], 0⟩] scope gpos) 0 (.ref it) .none cenv))) (t' := tk + 1 + 1 + 1) (m := fun y => if y = ".0" then some (.ref it) else none) I3 ok hN f3 hcell hA1 (by rw [e4h, hce]; exact hA2) (by rw [e4h]; exact hn'.push _) keep5 gbare
      rw [e4h, hce] at z
      exact z
    have hclt : h'.objs.size ∉ frs X.stack := fun hb => by
      obtain ⟨_, o, ho, _⟩ := I3.stack.mem hb
      have z := Heap.lt_size ho
      rw [e4h] at z
      have z2 : (h'.objs.size : Nat) < h3.objs.size := z
      omega
    have hgf : go.isFreed = false := by rw [← hgo]; rfl
    have hgc : go.cls = .type "generator" ∧ go.data = .fields #[.int s2.gens.size 0, .str "<genexpr>" (tk + 1), .str (X.env.qual ++ "<genexpr>") (tk + 1 + 1)] ∧ go.slots = #[] := by rw [← hgo]; exact ⟨rfl, rfl, rfl⟩
    have hcl : cenv.locals = h3.objs.size := by rw [← hce]; rfl
    have hcs : cenv.scope = scope := by rw [← hce]; rfl
    have I6 := I5.pins_of (pins' := [(h'.objs.size, go)]) fun p hp => by
      rw [List.mem_singleton.mp hp]
      refine ⟨Heap.get?_push_size _ hgf, I3.hok.fresh (by rw [e4h]; omega), ?_, hclt, fun v z => ?_⟩
      · show h'.objs.size ≠ cenv.locals
        rw [hcl]; omega
      · have z : go.data = .cell v := z
        rw [hgc.2.1] at z; cases z
    have pg := hG s4 H2 h3.objs.size code fp A' hA3
    have pe := hE s4 H2 h3.objs.size code fp A' hA3
    rw [hce] at pg pe
    have st5 : tn 0 (h'.push go) := T.keep _ _ _ st3 fun b hb o e => Heap.get?_push_of_some _ (keep' b o e)
    have wl : ∀ σ : L2.St, (wipe σ (own.map (·.2))).length = σ.length := fun σ => wipe_length σ _
    have ww : wipe (wipe σ (own.map (·.2))) (own.map (·.2)) = wipe σ (own.map (·.2)) := wipe_wipe _ _
    have goes : ∀ s6 : Shared, s6.heap = h'.push go → s6.os = s4.os → AllBare s6.gens → GenState.Goes (model X.prog X.w) X.A.in1.in1 (fun n s₀ r s₁ => r = .ok .next ∧ Rp (gcx X s4 H2 cenv fp A') [(h'.objs.size, go)] (wipe σ (own.map (·.2))) false Q n s₀ s₁) (Yp (gcx X s4 H2 cenv fp A') [(h'.objs.size, go)] (wipe σ (own.map (·.2))) false Q) (m0 + 1)
        (.fresh (.compStart (.GeneratorExp elt [⟨tg, iter, [], 0⟩] scope gpos) 0 (.ref it) .none cenv)) (.send .none) s6 := fun s6 h1 h2 h3' =>
      ⟨rfl, seg_start (gX := gcx X s4 H2 cenv fp A') (Ag := X.A.in1.in1) hA.symm rfl rfl (by rw [hcs]; exact hco) T hc (fun b hb => ⟨(I5.ok.exf b hb).1, I5.ok.exfs b hb, hb, fun x c e => (I5.ok.exf b hb).2 x c e, fun p hp => by
          rw [List.mem_singleton.mp (show p ∈ [(h'.objs.size, go)] from hp)]
          have z1 := sz2 b hb
          rw [e4h] at z1
          have z2 : @LT.lt Nat _ b h3.objs.size := z1
          exact fun z => by
            have z : @Eq Nat h'.objs.size b := z
            rw [hsz'] at z
            rw [← z] at z2
            exact absurd z2 (Nat.not_lt.mpr (Nat.le_succ _))⟩) (by rw [wl]; exact I5.len ▸ (wl σ).symm ▸ rfl) ww wl pg pe Wk (m0 + 1) m0 s6 s6 H2 (Nat.lt_succ_self _) (inv_gens I6 h1 h2 h3') (by rw [h1]; exact st5) n2 w0⟩
    refine Calls.spliced_nil ?_
    refine call_function_tree F.kind_all F.plain_all F.entry_all (F.args_all1 _) ?_
    unfold Builtin.«all»
    refine wpAny_bind (m := oneArg "all" _) (wpAny_pure ?_)
    refine wpAny_bind (wpAny_pyIter_gen (g := s2.gens.size) ⟨go, _, _, Heap.get?_push_size _ hgf, hgc.1, hgc.2.1, hgc.2.2⟩ ?_)
    refine wpAny_pure ⟨plainId_quiet F.plain_all_loop _, ?_⟩
    refine all_loop (gX := gcx X s4 H2 cenv fp A') (A := X.A) (a := h'.objs.size) (gn := s2.gens.size) (go := go) (σw := wipe σ (own.map (·.2))) (Q := Q) hr.hd (by have := hr.dp; omega) hgc (fun b s' H' I' q => ?_) (m0 + 1) _ _ H2 (inv_gens I6 ?_ ?_ ?_) ?_ (goes _ ?_ ?_ ?_)
    · refine ⟨.bl b, H', I3.call' (ch := fp) I'.os I'.base I'.hok I'.bare fun b hb => ⟨(f3 b hb).1.2.2.2.1, (f3 b hb).1.2.1, (f3 b hb).1.2.2.2.2.1, (f3 b hb).1.2.2.2.2.2⟩, rfl, q⟩
    · rfl
    · rfl
    · exact I3.bare.push rfl
    · show (s4.gens.push (.fresh (.compStart _ 0 _ _ (genEnv scope (gcl X scope) s4.heap.objs.size code builtinsNs X.env))))[s2.gens.size]? = _
      rw [e4h, hce, ← e4g]
      exact Array.getElem?_push_size ..
    · rfl
    · rfl
    · exact bare_set (I3.bare.push rfl) rfl
  cases hf : codeAmong gpos ps.toList with
  | none =>
    refine wpAny_genexprCodeX hcode (cd.code hPs ht) (cd.tab hPs) hf fun c' h' tk hx hge hlt hco' _ htab' _ => ?_
    obtain ⟨o1, vs, f1, tf, fl, tg, inF, tx, tt, op, _, _, _, _, _, _, _, _, _, htr, _⟩ := hco'
    exact cont _ h' tk _ hx (Nat.le_trans hge (Nat.le_of_lt hlt)) htab'.2 ⟨_, rfl⟩ htr
  | some cv =>
    refine wpAny_genexprCode_hit hcode (cd.code hPs ht) hf ?_
    exact cont cv s2.heap s2.toks ps (Heap.ExtBut.refl _ _) (Nat.le_refl _) hPs ⟨#[], by simp⟩ ht

theorem pe_any {X : Cx} {c P : Addr} {elt tg iter : Expr} {p pos gpos : Pos} {scope : Scope} {own : List (Str × Nat)} {wi : TI} {g : TG} {te : TE} {k : Nat}
    (hr : Room (k + 1) X.A) (hc : X.calm = true) (hN : X.N.Nodup) (hg : Gl X "any") (hm : X.mg "any" = none) (TB : GxR.TabB X.base X.mg c P) (hcode : X.env.code = .ref c) (hi : PI X tg iter wi) (ok : BlkOk X.N X.env.scope scope own)
    (hcell : ∀ y ∈ scope.names, y.2 ≠ .cell) (hco : scope.isCoroutine = false) (h0 : scope.names.lookup (".0" : Str) = some NameKind.local)
    (hG : ∀ (s : Shared) (H : Hp) (C : Addr) (code : Value) (fp : List Addr) (A' : Around), Room k A' → PG (gcx X s H (genEnv scope (gcl X scope) C code builtinsNs X.env) fp A') tg g)
    (hE : ∀ (s : Shared) (H : Hp) (C : Addr) (code : Value) (fp : List Addr) (A' : Around), Room k A' → PE (gcx X s H (genEnv scope (gcl X scope) C code builtinsNs X.env) fp A') elt te)
    (hs : ∀ v, genFold iter X.env v = pure v)
    (he : starEach [.GeneratorExp elt [⟨tg, iter, [], 0⟩] scope gpos] X.env = (false, eval (.GeneratorExp elt [⟨tg, iter, [], 0⟩] scope gpos) X.env) :: starEach [] X.env := by rfl) :
    PE X (.Call (.Name "any" p) [.GeneratorExp elt [⟨tg, iter, [], 0⟩] scope gpos] [] pos) (tAG P wi g te (own.map (·.2)) true) := by
  refine ⟨fun pins s σ H Q I h => ?_⟩
  refine wpAny_Call_Name_kw (ld_blt I hg hm boot_any ?_)
  refine PyProof.Rows.callWith_builtin1 ?_ he (by rfl)
  rw [he]
  show wpAny _ _ (spliced ((false, eval (.GeneratorExp elt [⟨tg, iter, [], 0⟩] scope gpos) X.env) :: backTo pos (starEach [] X.env))) _ _ s
  have hfree : ∀ y ∈ scope.names, y.2 = .free → ∃ c, X.env.cells.lookup y.1 = some c := fun y hy e => by
    rcases ok.free y hy e with k | k
    · exact I.ok.has _ (.inl k)
    · exact I.ok.has _ (.inr k)
  refine Calls.spliced_cons (wpAny_GeneratorExp_make hco (closure_ok hfree) hcell h0 ok.kind (by have := hr.dp; omega) ?_ hs)
  refine thn (hi.run pins s σ H _ I h) fun xv s1 h1 => thn h1 fun itv s2 h2 => ?_
  obtain ⟨it, fp, tn, J, H1, rfl, I2, T, st2, f2, htab, q⟩ := h2
  refine ⟨I2.nolimit, ?_⟩
  obtain ⟨ps, hP, ht⟩ := htab
  have hPs : s2.heap.get? P = some { cls := .none, data := .fields ps } := I2.hok P _ hP
  have cd : PySem.W.CodeHd s2.heap c P := TB.code.keeps fun b u e => I2.bk b u e
  have cont : ∀ (code : Value) (h3 : Heap) (tk : Nat) (ps' : Array Value), Heap.ExtBut P s2.heap h3 → s2.heap.objs.size ≤ h3.objs.size → h3.get? P = some { cls := .none, data := .fields ps' } → (∃ more, ps' = ps ++ more) → TriplesOk ps'.toList →
      wpAny (model X.prog X.w) X.A (builtinsFor X.env.globals X.env.builtins) (fun bi s₄ => ∀ h', h'.Ns s₄.heap.objs.size (fun y => if y = ".0" then some (.ref it) else none) → Heap.SameBut s₄.heap.objs.size (s₄.heap.push { cls := .type "frame", data := .dict #[] }) h' →
        wpAny (model X.prog X.w) X.A (spliced (backTo pos (starEach [] X.env))) (fun vs s₁ => wpAny (model X.prog X.w) X.A (call (.builtin "any") (.ref h'.objs.size :: vs)) (EP X pins σ Q) X.xe s₁) X.xe { s₄ with
            gens := s₄.gens.push (.fresh (.compStart (.GeneratorExp elt [⟨tg, iter, [], 0⟩] scope gpos) 0 (.ref it) .none (genEnv scope (gcl X scope) s₄.heap.objs.size code bi X.env))),
            toks := s₄.toks + 1 + 1 + 1,
            heap := h'.push { cls := .type "generator", data := .fields #[.int s₄.gens.size 0, .str "<genexpr>" (s₄.toks + 1), .str (X.env.qual ++ "<genexpr>") (s₄.toks + 1 + 1)] } }) X.xe { s2 with heap := h3, toks := tk } := by
    intro code h3 tk ps' hx hsz hP3 hmore ht3
    obtain ⟨more, em⟩ := hmore
    obtain ⟨bm, ob, e1, e2, e3, e4, e5, e6, e7, e8⟩ := TB.bm
    refine wpAny_builtinsFor (m := X.mg) (by rw [I2.ok.glob]; exact (I2.mod.glob.keeps I2.bk).extBut hx TB.gP) e1 e2 (hx _ _ e4 (I2.bk _ _ e5)) e6 e7 e8 ?_
    -- the state ahead of the generator
    have I3 : Inv X pins σ (upd H1 P (.tbl ps')) { s2 with heap := h3, toks := tk } := by
      rw [em]
      exact GxR.inv_tab (g' := s2.gens) (d' := s2.drawn) I2 hP (fun b o hb e => hx b o hb e) (by rw [← em]; exact hP3) I2.bare
    have hT2 : GxR.Tabbed P H1 (upd H1 P (.tbl ps')) := ⟨⟨ps', upd_same, ht3⟩, fun b hb => upd_ne hb⟩
    obtain ⟨W, ⟨m0, w0⟩, Wk⟩ := q _ hT2
    have fpP : ∀ b ∈ fp, b ≠ P := fun b hb z => by
      have := (f2 b hb).1
      rw [z, hP] at this; cases this
    have st3 : tn 0 h3 := T.keep _ _ _ st2 fun b hb o e => hx b o (fpP b hb) e
    intro h' hn' hs'
    have hn' : h'.Ns h3.objs.size (fun y => if y = ".0" then some (.ref it) else none) := hn'
    have hs' : Heap.SameBut h3.objs.size (h3.push { cls := .type "frame", data := .dict #[] }) h' := hs'
    have hsz' : h'.objs.size = h3.objs.size + 1 := by rw [hs'.1, Heap.size_push]
    have keep' : ∀ b o, h3.get? b = some o → h'.get? b = some o := fun b o e => hs'.extBut b o (Nat.ne_of_lt (Heap.lt_size e)) (Heap.get?_push_of_some _ e)
    generalize hgo : ({ cls := .type "generator", data := .fields #[.int s2.gens.size 0, .str "<genexpr>" (tk + 1), .str (X.env.qual ++ "<genexpr>") (tk + 1 + 1)] } : Obj) = go
    generalize hs4 : ({ s2 with heap := h3, toks := tk } : Shared) = s4 at I3
    have e4h : s4.heap = h3 := by rw [← hs4]
    have e4o : s4.os = s2.os := by rw [← hs4]
    have e4g : s4.gens = s2.gens := by rw [← hs4]
    generalize hH2 : upd H1 P (.tbl ps') = H2 at I3 w0
    have n2 : ∀ b ∈ fp, H2 b = none := fun b hb => by rw [← hH2, upd_ne (fpP b hb)]; exact (f2 b hb).1
    have sz2 : ∀ b ∈ fp, b < s4.heap.objs.size := fun b hb => by
      obtain ⟨o, e, _⟩ := T.obj _ _ st3 b hb
      rw [e4h]; exact Heap.lt_size e
    have f3 : ∀ b ∈ fp, FpOk X pins H2 b ∧ b < s4.heap.objs.size := fun b hb => ⟨⟨n2 b hb, (f2 b hb).2⟩, sz2 b hb⟩
    generalize hce : genEnv scope (gcl X scope) h3.objs.size code builtinsNs X.env = cenv
    generalize hA : X.A.in1.in1.over (.compLoop (.GeneratorExp elt [⟨tg, iter, [], 0⟩] scope gpos) 0 (.ref it) .none cenv) [] = A'
    have hA1 : A'.handled = none := by rw [← hA]; exact hr.hd
    have hA2 : A'.frames = some (cenv :: X.stack) := by
      rw [← hA]
      show pushEnvs [cenv] X.A.frames = _
      rw [I2.ok.frames]; rfl
    have hA3 : Room k A' := by
      refine ⟨hA1, ?_, ?_⟩
      · have := hr.dp
        rw [← hA]
        show X.A.depth + 1 + 3 * k + 5 < recursionLimit
        omega
      · have := hr.un
        rw [← hA]
        show X.A.units + 1 + 1 + 3 + 16 * k + 200 < cLine
        omega
    have keep5 : ∀ b o, s4.heap.get? b = some o → (h'.push go).get? b = some o := fun b o e => Heap.get?_push_of_some _ (keep' b o (by rw [← e4h]; exact e))
    have gbare : AllBare (s2.gens.push (.fresh (.compStart (.GeneratorExp elt [⟨tg, iter, [], 0⟩] scope gpos) 0 (.ref it) .none cenv))) := I2.bare.push rfl
    have I5 : Inv (gcx X s4 H2 cenv fp A') [] (wipe σ (own.map (·.2))) H2 { s4 with heap := h'.push go, gens := s2.gens.push (.fresh (.compStart (.GeneratorExp elt [⟨tg, iter, [], 0⟩] scope gpos) 0 (.ref it) .none cenv)), toks := tk + 1 + 1 + 1 } := by
      have z := gen_start (code := code) (A' := A') (h' := h'.push go) (g' := s2.gens.push (.fresh (.compStart (.GeneratorExp elt [⟨tg, iter, [], 0⟩] scope gpos) 0 (.ref it) .none cenv))) (t' := tk + 1 + 1 + 1) (m := fun y => if y = ".0" then some (.ref it) else none) I3 ok hN f3 hcell hA1 (by rw [e4h, hce]; exact hA2) (by rw [e4h]; exact hn'.push _) keep5 gbare
      rw [e4h, hce] at z
      exact z
    have hclt : h'.objs.size ∉ frs X.stack := fun hb => by
      obtain ⟨_, o, ho, _⟩ := I3.stack.mem hb
      have z := Heap.lt_size ho
      rw [e4h] at z
      have z2 : (h'.objs.size : Nat) < h3.objs.size := z
      omega
    have hgf : go.isFreed = false := by rw [← hgo]; rfl
    have hgc : go.cls = .type "generator" ∧ go.data = .fields #[.int s2.gens.size 0, .str "<genexpr>" (tk + 1), .str (X.env.qual ++ "<genexpr>") (tk + 1 + 1)] ∧ go.slots = #[] := by rw [← hgo]; exact ⟨rfl, rfl, rfl⟩
    have hcl : cenv.locals = h3.objs.size := by rw [← hce]; rfl
    have hcs : cenv.scope = scope := by rw [← hce]; rfl
    have I6 := I5.pins_of (pins' := [(h'.objs.size, go)]) fun p hp => by
      rw [List.mem_singleton.mp hp]
      refine ⟨Heap.get?_push_size _ hgf, I3.hok.fresh (by rw [e4h]; omega), ?_, hclt, fun v z => ?_⟩
      · show h'.objs.size ≠ cenv.locals
        rw [hcl]; omega
      · have z : go.data = .cell v := z
        rw [hgc.2.1] at z; cases z
    have pg := hG s4 H2 h3.objs.size code fp A' hA3
    have pe := hE s4 H2 h3.objs.size code fp A' hA3
    rw [hce] at pg pe
    have st5 : tn 0 (h'.push go) := T.keep _ _ _ st3 fun b hb o e => Heap.get?_push_of_some _ (keep' b o e)
    have wl : ∀ σ : L2.St, (wipe σ (own.map (·.2))).length = σ.length := fun σ => wipe_length σ _
    have ww : wipe (wipe σ (own.map (·.2))) (own.map (·.2)) = wipe σ (own.map (·.2)) := wipe_wipe _ _
    have goes : ∀ s6 : Shared, s6.heap = h'.push go → s6.os = s4.os → AllBare s6.gens → GenState.Goes (model X.prog X.w) X.A.in1.in1 (fun n s₀ r s₁ => r = .ok .next ∧ Rp (gcx X s4 H2 cenv fp A') [(h'.objs.size, go)] (wipe σ (own.map (·.2))) true Q n s₀ s₁) (Yp (gcx X s4 H2 cenv fp A') [(h'.objs.size, go)] (wipe σ (own.map (·.2))) true Q) (m0 + 1)
        (.fresh (.compStart (.GeneratorExp elt [⟨tg, iter, [], 0⟩] scope gpos) 0 (.ref it) .none cenv)) (.send .none) s6 := fun s6 h1 h2 h3' =>
      ⟨rfl, seg_start (gX := gcx X s4 H2 cenv fp A') (Ag := X.A.in1.in1) hA.symm rfl rfl (by rw [hcs]; exact hco) T hc (fun b hb => ⟨(I5.ok.exf b hb).1, I5.ok.exfs b hb, hb, fun x c e => (I5.ok.exf b hb).2 x c e, fun p hp => by
          rw [List.mem_singleton.mp (show p ∈ [(h'.objs.size, go)] from hp)]
          have z1 := sz2 b hb
          rw [e4h] at z1
          have z2 : @LT.lt Nat _ b h3.objs.size := z1
          exact fun z => by
            have z : @Eq Nat h'.objs.size b := z
            rw [hsz'] at z
            rw [← z] at z2
            exact absurd z2 (Nat.not_lt.mpr (Nat.le_succ _))⟩) (by rw [wl]; exact I5.len ▸ (wl σ).symm ▸ rfl) ww wl pg pe Wk (m0 + 1) m0 s6 s6 H2 (Nat.lt_succ_self _) (inv_gens I6 h1 h2 h3') (by rw [h1]; exact st5) n2 w0⟩
    refine Calls.spliced_nil ?_
    refine call_function_tree F.kind_any F.plain_any F.entry_any (F.args_any1 _) ?_
    unfold Builtin.«any»
    refine wpAny_bind (m := oneArg "any" _) (wpAny_pure ?_)
    refine wpAny_bind (wpAny_pyIter_gen (g := s2.gens.size) ⟨go, _, _, Heap.get?_push_size _ hgf, hgc.1, hgc.2.1, hgc.2.2⟩ ?_)
    refine wpAny_pure ⟨plainId_quiet F.plain_any_loop _, ?_⟩
    refine any_loop (gX := gcx X s4 H2 cenv fp A') (A := X.A) (a := h'.objs.size) (gn := s2.gens.size) (go := go) (σw := wipe σ (own.map (·.2))) (Q := Q) hr.hd (by have := hr.dp; omega) hgc (fun b s' H' I' q => ?_) (m0 + 1) _ _ H2 (inv_gens I6 ?_ ?_ ?_) ?_ (goes _ ?_ ?_ ?_)
    · refine ⟨.bl b, H', I3.call' (ch := fp) I'.os I'.base I'.hok I'.bare fun b hb => ⟨(f3 b hb).1.2.2.2.1, (f3 b hb).1.2.1, (f3 b hb).1.2.2.2.2.1, (f3 b hb).1.2.2.2.2.2⟩, rfl, q⟩
    · rfl
    · rfl
    · exact I3.bare.push rfl
    · show (s4.gens.push (.fresh (.compStart _ 0 _ _ (genEnv scope (gcl X scope) s4.heap.objs.size code builtinsNs X.env))))[s2.gens.size]? = _
      rw [e4h, hce, ← e4g]
      exact Array.getElem?_push_size ..
    · rfl
    · rfl
    · exact bare_set (I3.bare.push rfl) rfl
  cases hf : codeAmong gpos ps.toList with
  | none =>
    refine wpAny_genexprCodeX hcode (cd.code hPs ht) (cd.tab hPs) hf fun c' h' tk hx hge hlt hco' _ htab' _ => ?_
    obtain ⟨o1, vs, f1, tf, fl, tg, inF, tx, tt, op, _, _, _, _, _, _, _, _, _, htr, _⟩ := hco'
    exact cont _ h' tk _ hx (Nat.le_trans hge (Nat.le_of_lt hlt)) htab'.2 ⟨_, rfl⟩ htr
  | some cv =>
    refine wpAny_genexprCode_hit hcode (cd.code hPs ht) hf ?_
    exact cont cv s2.heap s2.toks ps (Heap.ExtBut.refl _ _) (Nat.le_refl _) hPs ⟨#[], by simp⟩ ht
end GX
end
-- part Z0
section
set_option Elab.async false
set_option linter.all false
set_option maxRecDepth 100000
set_option autoImplicit false
/-! # Z: a small functional reading of Python over HandS: data P, cells, results; each construct's rule gives a Lean function. -/
namespace Z
open PySem PySem.Spec PyProof.Rows L2

/-- pure data -/
inductive P where
  | non | bl (b : Bool) | int (i : Int) | str (x : Str)
  | tup (ps : List P) | lst (ps : List P) | dct (ks : List Key) (vs : List P) | dcu (ks : List (List Key)) (vs : List P) | obj (c : Str) (ns : List Str) (ps : List P) | scr (ns : List Int)
/-- a value: data, or a cell of the store, or the error that an except suite holds -/
inductive W where
  | val (p : P) | loc (n : Nat) | exc
inductive Cell where
  | lst (ws : List W) | ins (c : Str) (ns : List Str) (ws : List W) | frz (p : P) | dct (ks : List Key) (ws : List W) | dcu (ks : List (List Key)) (ws : List W)
abbrev Store := List Cell
abbrev Env := List (Option W)
structure Xn where
  cls : Str
  ns : List Str
  ps : List P
inductive RE (α : Type) where
  | ok (a : α) (S : Store) | ex (x : Xn) (S : Store) | bad
inductive R where
  | nx (ρ : Env) (S : Store) | rt (w : W) (S : Store) | bk (ρ : Env) (S : Store) | ct (ρ : Env) (S : Store) | ex (x : Xn) (ρ : Env) (S : Store) | bad
inductive Rp where
  | ok (p : P) | ex (x : Xn) | bad
abbrev FE (α : Type) := Env → Store → RE α
abbrev FS := Env → Store → R

/-- the classes' addresses; the tables of code objects -/
structure CTb where
  cls : Str → Addr
  tabs : List Addr
  pin : Option (Addr × Value × Option Addr × Xn) := none
instance : CoeFun CTb fun _ => Str → Addr := ⟨CTb.cls⟩
/-! ### representation -/
def Ex (H H' : Hp) : Prop := ∀ a o, H a = some o → H' a = some o
theorem Ex.refl (H : Hp) : Ex H H := fun _ _ h => h
theorem Ex.trans {H H1 H2 : Hp} (a : Ex H H1) (b : Ex H1 H2) : Ex H H2 := fun x o h => b x o (a x o h)
theorem Ex.new {H : Hp} {p : Addr} {o : HO} (h : H p = none) : Ex H (upd H p o) := fun a u e => by
  rw [upd_ne (ne_of_none e h)]; exact e
theorem Ex.mut {H H' : Hp} {p : Addr} {o : HO} (e : Ex H H') (h : H p = none) : Ex H (upd H' p o) := fun a u ha => by
  rw [upd_ne (ne_of_none ha h)]; exact e a u ha
theorem Ex.both {H H' : Hp} {p : Addr} {o : HO} (e : Ex H H') (h : H' p = none) : Ex (upd H p o) (upd H' p o) := fun a u ha => by
  by_cases q : a = p
  · subst q; rw [upd_same] at ha ⊢; exact ha
  · rw [upd_ne q] at ha ⊢; exact e a u ha
theorem Ex.back {H H' : Hp} {p : Addr} (e : Ex H H') (h : H' p = none) : H p = none := by
  cases h1 : H p with
  | none => rfl
  | some o => rw [e p o h1] at h; cases h
theorem Ex.rd {H H' : Hp} {a : Addr} {u : HO} (e : Ex H H') (h : Rd H a u) : Rd H' a u := by
  rcases h with h | ⟨o, h⟩
  · exact .inl (e a _ h)
  · exact .inr ⟨o, e a _ h⟩
theorem Ex.sl {K : PySem.W.Frag} {H H' : Hp} {a : Addr} {xs : List V} (e : Ex H H') (h : SqL K H a xs) : SqL K H' a xs := by
  rcases h with h | h
  · exact .inl (e.rd h)
  · exact .inr h
theorem Ex.st {K : PySem.W.Frag} {H H' : Hp} {a : Addr} {xs : List V} (e : Ex H H') (h : SqT K H a xs) : SqT K H' a xs := by
  rcases h with h | h
  · exact .inl (e.rd h)
  · exact .inr h

section
variable (K : PySem.W.Frag) (CT : CTb) (F : Hp)
mutual
def RepP : P → V → Prop
  | .non, v => v = .non
  | .bl b, v => v = .bl b
  | .int i, v => v = .int i
  | .str x, v => v = .str x
  | .tup ps, v => ∃ a vs, v = .ref a ∧ SqT K F a vs ∧ RepL ps vs
  | .lst ps, v => ∃ a vs, v = .ref a ∧ F a = some (.lst vs) ∧ RepL ps vs
  | .scr ns, v => ∃ a, v = .ref a ∧ SqL K F a (ns.map V.int)
  | .dct ks ps, v => ∃ a vs, v = .ref a ∧ F a = some (.dK (ks.zip vs)) ∧ ks.length = ps.length ∧ RepL ps vs
  | .dcu ks ps, v => ∃ a vs, v = .ref a ∧ F a = some (.dT (ks.zip vs)) ∧ ks.length = ps.length ∧ RepL ps vs
  | .obj c ns ps, v => ∃ a dx vs, v = .ref a ∧ F a = some (.ins (CT c) dx (ns.zip vs)) ∧ ns.length = ps.length ∧ RepL ps vs
def RepL : List P → List V → Prop
  | [], vs => vs = []
  | p :: ps, vs => ∃ v vs', vs = v :: vs' ∧ RepP p v ∧ RepL ps vs'
end
end
section
variable {K : PySem.W.Frag} {CT : CTb} {F F' : Hp}
mutual
theorem RepP.mono (e : Ex F F') : ∀ {p : P} {v : V}, RepP K CT F p v → RepP K CT F' p v
  | .non, _, h => h
  | .bl _, _, h => h
  | .int _, _, h => h
  | .str _, _, h => h
  | .tup ps, _, ⟨a, vs, h1, h2, h3⟩ => ⟨a, vs, h1, e.st h2, RepL.mono e h3⟩
  | .lst ps, _, ⟨a, vs, h1, h2, h3⟩ => ⟨a, vs, h1, e _ _ h2, RepL.mono e h3⟩
  | .scr ns, _, ⟨a, h1, h2⟩ => ⟨a, h1, e.sl h2⟩
  | .dct ks ps, _, ⟨a, vs, h1, h2, hl, h3⟩ => ⟨a, vs, h1, e _ _ h2, hl, RepL.mono e h3⟩
  | .dcu ks ps, _, ⟨a, vs, h1, h2, hl, h3⟩ => ⟨a, vs, h1, e _ _ h2, hl, RepL.mono e h3⟩
  | .obj c ns ps, _, ⟨a, dx, vs, h1, h2, hl, h3⟩ => ⟨a, dx, vs, h1, e _ _ h2, hl, RepL.mono e h3⟩
theorem RepL.mono (e : Ex F F') : ∀ {ps : List P} {vs : List V}, RepL K CT F ps vs → RepL K CT F' ps vs
  | [], _, h => h
  | p :: ps, _, ⟨v, vs', h1, h2, h3⟩ => ⟨v, vs', h1, RepP.mono e h2, RepL.mono e h3⟩
end
theorem RepL.length : ∀ {ps : List P} {vs : List V}, RepL K CT F ps vs → vs.length = ps.length
  | [], _, h => by rw [show _ = _ from h]; rfl
  | p :: ps, _, ⟨v, vs', h1, h2, h3⟩ => by rw [h1, List.length_cons, List.length_cons, RepL.length h3]
theorem RepL.get : ∀ {ps : List P} {vs : List V} {i : Nat} {v : V}, RepL K CT F ps vs → vs[i]? = some v → ∃ p, ps[i]? = some p ∧ RepP K CT F p v
  | [], _, _, _, h, e => by rw [show _ = _ from h] at e; simp at e
  | p :: ps, _, 0, v, ⟨v', vs', h1, h2, h3⟩, e => by subst h1; simp at e; subst e; exact ⟨p, rfl, h2⟩
  | p :: ps, _, i + 1, v, ⟨v', vs', h1, h2, h3⟩, e => by subst h1; simp at e; simpa using RepL.get h3 e
theorem RepL.get' : ∀ {ps : List P} {vs : List V} {i : Nat} {p : P}, RepL K CT F ps vs → ps[i]? = some p → ∃ v, vs[i]? = some v ∧ RepP K CT F p v
  | [], _, _, _, h, e => by simp at e
  | p :: ps, _, 0, q, ⟨v', vs', h1, h2, h3⟩, e => by subst h1; simp at e; subst e; exact ⟨v', rfl, h2⟩
  | p :: ps, _, i + 1, q, ⟨v', vs', h1, h2, h3⟩, e => by subst h1; simp at e; simpa using RepL.get' h3 e
theorem RepL.append : ∀ {ps qs : List P} {vs us : List V}, RepL K CT F ps vs → RepL K CT F qs us → RepL K CT F (ps ++ qs) (vs ++ us)
  | [], _, _, _, h, q => by rw [show _ = _ from h]; exact q
  | p :: ps, _, _, _, ⟨v', vs', h1, h2, h3⟩, q => by subst h1; exact ⟨v', _, rfl, h2, RepL.append h3 q⟩
end

/-! ### the state -/
structure Fs where
  G : Hp
  F : Hp
  m : List Addr
structure Ext (s s' : Fs) : Prop where
  g : s.G = s'.G
  f : Ex s.F s'.F
  m : ∀ (n : Nat) (a : Addr), s.m[n]? = some a → s'.m[n]? = some a
  new : ∀ a, s.F a = none → s.G a ≠ none → s'.F a = none
theorem Ext.refl (s : Fs) : Ext s s := ⟨rfl, Ex.refl _, fun _ _ h => h, fun _ h _ => h⟩
theorem Ext.trans {s s1 s2 : Fs} (a : Ext s s1) (b : Ext s1 s2) : Ext s s2 :=
  ⟨a.g.trans b.g, a.f.trans b.f, fun n x h => b.m n x (a.m n x h), fun x h g => b.new x (a.new x h g) (by rw [← a.g]; exact g)⟩

def RepX (K : PySem.W.Frag) (CT : CTb) (F : Hp) (x : Xn) (c : Value) (dd : Option Addr) : Prop :=
  c = .ref (CT x.cls) ∧ ((x.ns = [] ∧ x.ps = [] ∧ dd = none) ∨ ∃ d vs, dd = some d ∧ F d = some (.xd (x.ns.zip vs)) ∧ x.ns.length = x.ps.length ∧ RepL K CT F x.ps vs)
section
variable (K : PySem.W.Frag) (CT : CTb)
def RepW (s : Fs) : W → V → Prop
  | .val p, v => RepP K CT s.F p v
  | .loc n, v => ∃ a, s.m[n]? = some a ∧ v = .ref a
  | .exc, v => ∃ a cls d x, CT.pin = some (a, cls, d, x) ∧ v = .ref a ∧ RepX K CT s.F x cls d
def RepWs (s : Fs) : List W → List V → Prop
  | [], vs => vs = []
  | w :: ws, vs => ∃ v vs', vs = v :: vs' ∧ RepW K CT s w v ∧ RepWs s ws vs'
def CellOk (s : Fs) (H : Hp) (a : Addr) : Cell → Prop
  | .lst ws => s.F a = none ∧ s.G a = none ∧ ∃ vs, H a = some (.lst vs) ∧ RepWs K CT s ws vs
  | .ins c ns ws => s.F a = none ∧ s.G a = none ∧ ∃ dx vs, H a = some (.ins (CT c) dx (ns.zip vs)) ∧ ns.length = ws.length ∧ RepWs K CT s ws vs
  | .frz p => RepP K CT s.F p (.ref a)
  | .dct ks ws => s.F a = none ∧ s.G a = none ∧ ∃ vs, H a = some (.dK (ks.zip vs)) ∧ ks.length = ws.length ∧ RepWs K CT s ws vs
  | .dcu ks ws => s.F a = none ∧ s.G a = none ∧ ∃ vs, H a = some (.dT (ks.zip vs)) ∧ ks.length = ws.length ∧ RepWs K CT s ws vs
end
def live : Cell → Prop
  | .frz _ => False
  | _ => True
structure Gd (K : PySem.W.Frag) (CT : CTb) (s : Fs) (S : Store) (H : Hp) : Prop where
  exF : Ex s.F H
  exG : Ex s.G H
  len : s.m.length = S.length
  cells : ∀ (n : Nat) (c : Cell) (a : Addr), S[n]? = some c → s.m[n]? = some a → CellOk K CT s H a c
  inj : ∀ (n n' : Nat) (c c' : Cell) (a : Addr), S[n]? = some c → S[n']? = some c' → live c → live c' → s.m[n]? = some a → s.m[n']? = some a → n = n'
  tab : ∀ P ∈ CT.tabs, GxR.TabG H P
  notF : ∀ P ∈ CT.tabs, s.F P = none
  notG : ∀ P ∈ CT.tabs, s.G P = none
theorem tab_ex {H H' : Hp} {P : Addr} (e : Ex H H') (h : GxR.TabG H P) : GxR.TabG H' P := let ⟨ps, h1, h2⟩ := h; ⟨ps, e _ _ h1, h2⟩
theorem tab_ne {H : Hp} {P : Addr} (h : GxR.TabG H P) : H P ≠ none := by obtain ⟨ps, h1, _⟩ := h; rw [h1]; simp
structure EnvOk (K : PySem.W.Frag) (CT : CTb) (s : Fs) (ρ : Env) (σ : L2.St) : Prop where
  len : ρ.length = σ.length
  get : ∀ (i : Nat) (w : W), ρ[i]? = some (some w) → ∃ v, σ[i]? = some (some v) ∧ RepW K CT s w v
section
variable {K : PySem.W.Frag} {CT : CTb} {s s' s1 : Fs} {S S' : Store} {H H' : Hp} {ρ : Env} {σ : L2.St}
theorem RepX.mono {F F' : Hp} (e : Ex F F') {x : Xn} {c : Value} {dd : Option Addr} (h : RepX K CT F x c dd) : RepX K CT F' x c dd := by
  obtain ⟨h1, h2⟩ := h
  refine ⟨h1, h2.imp id fun ⟨d, vs, h3, h4, h5, h6⟩ => ⟨d, vs, h3, e _ _ h4, h5, h6.mono e⟩⟩
theorem RepW.mono (e : Ext s s') {w : W} {v : V} (h : RepW K CT s w v) : RepW K CT s' w v := by
  cases w with
  | val p => exact RepP.mono e.f h
  | loc n => obtain ⟨a, h1, h2⟩ := h; exact ⟨a, e.m n a h1, h2⟩
  | exc =>
    obtain ⟨a, cls, d, x, h1, h2, h3⟩ := h
    exact ⟨a, cls, d, x, h1, h2, h3.mono e.f⟩
theorem RepWs.mono (e : Ext s s') : ∀ {ws : List W} {vs : List V}, RepWs K CT s ws vs → RepWs K CT s' ws vs
  | [], _, h => h
  | w :: ws, _, ⟨v, vs', h1, h2, h3⟩ => ⟨v, vs', h1, h2.mono e, RepWs.mono e h3⟩
theorem RepWs.length : ∀ {ws : List W} {vs : List V}, RepWs K CT s ws vs → vs.length = ws.length
  | [], _, h => by rw [show _ = _ from h]; rfl
  | p :: ps, _, ⟨v, vs', h1, h2, h3⟩ => by rw [h1, List.length_cons, List.length_cons, RepWs.length h3]
theorem RepWs.append : ∀ {ps qs : List W} {vs us : List V}, RepWs K CT s ps vs → RepWs K CT s qs us → RepWs K CT s (ps ++ qs) (vs ++ us)
  | [], _, _, _, h, q => by rw [show _ = _ from h]; exact q
  | p :: ps, _, _, _, ⟨v', vs', h1, h2, h3⟩, q => by subst h1; exact ⟨v', _, rfl, h2, RepWs.append h3 q⟩
theorem RepWs.get' : ∀ {ps : List W} {vs : List V} {i : Nat} {p : W}, RepWs K CT s ps vs → ps[i]? = some p → ∃ v, vs[i]? = some v ∧ RepW K CT s p v
  | [], _, _, _, h, e => by simp at e
  | p :: ps, _, 0, q, ⟨v', vs', h1, h2, h3⟩, e => by subst h1; simp at e; subst e; exact ⟨v', rfl, h2⟩
  | p :: ps, _, i + 1, q, ⟨v', vs', h1, h2, h3⟩, e => by subst h1; simp at e; simpa using RepWs.get' h3 e
theorem EnvOk.mono (e : Ext s s') (h : EnvOk K CT s ρ σ) : EnvOk K CT s' ρ σ := ⟨h.len, fun i w q => let ⟨v, h1, h2⟩ := h.get i w q; ⟨v, h1, h2.mono e⟩⟩
theorem EnvOk.set (h : EnvOk K CT s ρ σ) {i : Nat} {w : W} {v : V} (r : RepW K CT s w v) : EnvOk K CT s (ρ.set i (some w)) (σ.set i (some v)) := by
  refine ⟨by rw [List.length_set, List.length_set, h.len], fun j u q => ?_⟩
  rw [List.getElem?_set] at q
  by_cases e : i = j
  · rw [if_pos e] at q
    by_cases l : i < ρ.length
    · rw [if_pos l] at q
      cases q
      exact ⟨v, by rw [List.getElem?_set, if_pos e, if_pos (by rw [← h.len]; exact l)], r⟩
    · rw [if_neg l] at q; cases q
  · rw [if_neg e] at q
    obtain ⟨x, h1, h2⟩ := h.get j u q
    exact ⟨x, by rw [List.getElem?_set, if_neg e]; exact h1, h2⟩
theorem EnvOk.unset (h : EnvOk K CT s ρ σ) {i : Nat} (x : Option V) : EnvOk K CT s (ρ.set i none) (σ.set i x) := by
  refine ⟨by rw [List.length_set, List.length_set, h.len], fun j u q => ?_⟩
  rw [List.getElem?_set] at q
  by_cases e : i = j
  · rw [if_pos e] at q
    by_cases l : i < ρ.length
    · rw [if_pos l] at q; cases q
    · rw [if_neg l] at q; cases q
  · rw [if_neg e] at q
    obtain ⟨x, h1, h2⟩ := h.get j u q
    exact ⟨x, by rw [List.getElem?_set, if_neg e]; exact h1, h2⟩

/-- frozen things grow, the store and its cells as they are -/
theorem Gd.grow (g : Gd K CT s S H) {F' H' : Hp} (eF : Ex s.F F') (eH : Ex H H') (eFH : Ex F' H') (new : ∀ a, s.F a = none → H a ≠ none → F' a = none) :
    Gd K CT { s with F := F' } S H' ∧ Ext s { s with F := F' } := by
  have x : Ext s { s with F := F' } := ⟨rfl, eF, fun _ _ h => h, fun a h hg => new a h (by
    cases q : s.G a with
    | none => exact absurd q hg
    | some o => rw [g.exG a o q]; simp)⟩
  refine ⟨⟨eFH, g.exG.trans eH, g.len, fun n c a h1 h2 => ?_, g.inj, fun P hP => tab_ex eH (g.tab P hP), fun P hP => new P (g.notF P hP) (tab_ne (g.tab P hP)), g.notG⟩, x⟩
  have q := g.cells n c a h1 h2
  cases c with
  | lst ws =>
    obtain ⟨q1, q2, vs, q3, q4⟩ := q
    exact ⟨new a q1 (by rw [q3]; simp), q2, vs, eH _ _ q3, q4.mono x⟩
  | dct ks ws =>
    obtain ⟨q1, q2, vs, q3, ql, q4⟩ := q
    exact ⟨new a q1 (by rw [q3]; simp), q2, vs, eH _ _ q3, ql, q4.mono x⟩
  | dcu ks ws =>
    obtain ⟨q1, q2, vs, q3, ql, q4⟩ := q
    exact ⟨new a q1 (by rw [q3]; simp), q2, vs, eH _ _ q3, ql, q4.mono x⟩
  | ins c ns ws =>
    obtain ⟨q1, q2, dx, vs, q3, ql, q4⟩ := q
    exact ⟨new a q1 (by rw [q3]; simp), q2, dx, vs, eH _ _ q3, ql, q4.mono x⟩
  | frz p => exact RepP.mono eF q
theorem Gd.newF (g : Gd K CT s S H) {p : Addr} (hp : H p = none) (o : HO) : Gd K CT { s with F := upd s.F p o } S (upd H p o) ∧ Ext s { s with F := upd s.F p o } :=
  g.grow (Ex.new (g.exF.back hp)) (Ex.new hp) (Ex.both g.exF hp) (fun a h1 h2 => by
    rw [upd_ne (fun e => h2 (by rw [e]; exact hp))]; exact h1)
theorem get_snoc {α : Type} {l : List α} {x y : α} {n : Nat} (h : (l ++ [x])[n]? = some y) : l[n]? = some y ∨ (n = l.length ∧ y = x) := by
  rcases Nat.lt_trichotomy n l.length with c | c | c
  · rw [List.getElem?_append_left c] at h; exact .inl h
  · subst c; simp at h; exact .inr ⟨rfl, h.symm⟩
  · rw [List.getElem?_append_right (Nat.le_of_lt c)] at h
    have : n - l.length ≠ 0 := by omega
    obtain ⟨k, hk⟩ := Nat.exists_eq_succ_of_ne_zero this
    rw [hk] at h; simp at h
theorem snoc_ext {l : List Addr} {p : Addr} : ∀ (n : Nat) (a : Addr), l[n]? = some a → (l ++ [p])[n]? = some a := fun n a h => by
  have := (List.getElem?_eq_some_iff.mp h).1
  rw [List.getElem?_append_left this]; exact h
/-- a new cell -/
theorem Gd.newC (g : Gd K CT s S H) {p : Addr} (hp : H p = none) {o : HO} {c : Cell} (H' : Hp) (hH : Ex H H') (hH' : H' p = some o)
    (hc : ∀ s' : Fs, Ext s s' → s'.F p = none → s'.G p = none → CellOk K CT s' H' p c) :
    Gd K CT { s with m := s.m ++ [p] } (S ++ [c]) H' ∧ Ext s { s with m := s.m ++ [p] } ∧ (s.m ++ [p])[S.length]? = some p := by
  have x : Ext s { s with m := s.m ++ [p] } := ⟨rfl, Ex.refl _, snoc_ext, fun _ h _ => h⟩
  have old : ∀ (n : Nat) (c : Cell) (a : Addr), S[n]? = some c → s.m[n]? = some a → live c → a ≠ p := fun n c a h1 h2 hl => by
    have q := g.cells n c a h1 h2
    cases c with
    | lst ws => obtain ⟨q1, q2, vs, q3, q4⟩ := q; exact ne_of_none q3 hp
    | dct ks ws => obtain ⟨q1, q2, vs, q3, ql, q4⟩ := q; exact ne_of_none q3 hp
    | dcu ks ws => obtain ⟨q1, q2, vs, q3, ql, q4⟩ := q; exact ne_of_none q3 hp
    | ins c ns ws => obtain ⟨q1, q2, dx, vs, q3, ql, q4⟩ := q; exact ne_of_none q3 hp
    | frz p => exact hl.elim
  have key : ∀ (n : Nat) (c' : Cell) (a : Addr), (S ++ [c])[n]? = some c' → (s.m ++ [p])[n]? = some a → (S[n]? = some c' ∧ s.m[n]? = some a) ∨ (n = S.length ∧ c' = c ∧ a = p) := fun n c' a h1 h2 => by
    rcases get_snoc h1 with q | ⟨q, q'⟩
    · rcases get_snoc h2 with r | ⟨r, r'⟩
      · exact .inl ⟨q, r⟩
      · have := (List.getElem?_eq_some_iff.mp q).1
        rw [g.len] at r; omega
    · rcases get_snoc h2 with r | ⟨r, r'⟩
      · have := (List.getElem?_eq_some_iff.mp r).1
        rw [g.len] at this; omega
      · exact .inr ⟨q, q', r'⟩
  refine ⟨⟨g.exF.trans hH, g.exG.trans hH, by simp [g.len], fun n c' a h1 h2 => ?_, fun n n' c1 c2 a h1 h2 l1 l2 e1 e2 => ?_, fun P hP => tab_ex hH (g.tab P hP), g.notF, g.notG⟩, x, by rw [← g.len]; simp⟩
  · rcases key n c' a h1 h2 with ⟨q, r⟩ | ⟨q, rfl, rfl⟩
    · have q := g.cells n c' a q r
      cases c' with
      | lst ws => obtain ⟨q1, q2, vs, q3, q4⟩ := q; exact ⟨q1, q2, vs, hH _ _ q3, q4.mono x⟩
      | dct ks ws => obtain ⟨q1, q2, vs, q3, ql, q4⟩ := q; exact ⟨q1, q2, vs, hH _ _ q3, ql, q4.mono x⟩
      | dcu ks ws => obtain ⟨q1, q2, vs, q3, ql, q4⟩ := q; exact ⟨q1, q2, vs, hH _ _ q3, ql, q4.mono x⟩
      | ins c ns ws => obtain ⟨q1, q2, dx, vs, q3, ql, q4⟩ := q; exact ⟨q1, q2, dx, vs, hH _ _ q3, ql, q4.mono x⟩
      | frz p => exact q
    · exact hc _ x (g.exF.back hp) (g.exG.back hp)
  · rcases key n c1 a h1 e1 with ⟨q, r⟩ | ⟨q, rfl, rfl⟩
    · rcases key n' c2 a h2 e2 with ⟨q', r'⟩ | ⟨q', rfl, rfl⟩
      · exact g.inj n n' c1 c2 a q q' l1 l2 r r'
      · exact absurd rfl (old n c1 _ q r l1)
    · rcases key n' c2 _ h2 e2 with ⟨q', r'⟩ | ⟨q', rfl, _⟩
      · exact absurd rfl (old n' c2 _ q' r' l2)
      · rw [q, q']
/-- a live cell changes -/
theorem Gd.setC (g : Gd K CT s S H) {n : Nat} {a : Addr} {c c' : Cell} {o' : HO} (h1 : S[n]? = some c) (hl : live c) (h2 : s.m[n]? = some a)
    (hF : s.F a = none) (hG : s.G a = none) (hH : H a ≠ none) (hc : CellOk K CT s (upd H a o') a c') : Gd K CT s (S.set n c') (upd H a o') := by
  have oth : ∀ (n' : Nat) (c' : Cell) (a' : Addr), S[n']? = some c' → s.m[n']? = some a' → live c' → n ≠ n' → a' ≠ a := fun n' c' a' q1 q2 l ne e => by
    subst e; exact ne (g.inj n n' c c' a' h1 q1 hl l h2 q2)
  have nlt := (List.getElem?_eq_some_iff.mp h1).1
  have hna : ∀ P ∈ CT.tabs, P ≠ a := fun P hP z => by
    have q := g.cells n c a h1 h2
    obtain ⟨ps, hp, _⟩ := g.tab P hP
    rw [z] at hp
    cases c with
    | lst ws => obtain ⟨_, _, vs, q3, _⟩ := q; rw [q3] at hp; cases hp
    | dct ks ws => obtain ⟨_, _, vs, q3, _, _⟩ := q; rw [q3] at hp; cases hp
    | dcu ks ws => obtain ⟨_, _, vs, q3, _, _⟩ := q; rw [q3] at hp; cases hp
    | ins c ns ws => obtain ⟨_, _, dx, vs, q3, _, _⟩ := q; rw [q3] at hp; cases hp
    | frz p => exact hl.elim
  refine ⟨Ex.mut g.exF hF, Ex.mut g.exG hG, by rw [List.length_set]; exact g.len, fun n' d b q1 q2 => ?_, fun n1 n2 d1 d2 b q1 q2 l1 l2 e1 e2 => ?_, fun P hP => by
    obtain ⟨ps, h1, h2⟩ := g.tab P hP
    exact ⟨ps, by rw [upd_ne (hna P hP)]; exact h1, h2⟩, g.notF, g.notG⟩
  · rw [List.getElem?_set] at q1
    by_cases e : n = n'
    · subst e
      rw [if_pos rfl, if_pos nlt] at q1
      cases q1
      rw [h2] at q2; cases q2
      exact hc
    · rw [if_neg e] at q1
      have q := g.cells n' d b q1 q2
      cases d with
      | lst ws => obtain ⟨r1, r2, vs, r3, r4⟩ := q; exact ⟨r1, r2, vs, by rw [upd_ne (oth n' _ b q1 q2 trivial e)]; exact r3, r4⟩
      | dct ks ws => obtain ⟨r1, r2, vs, r3, ql, r4⟩ := q; exact ⟨r1, r2, vs, by rw [upd_ne (oth n' _ b q1 q2 trivial e)]; exact r3, ql, r4⟩
      | dcu ks ws => obtain ⟨r1, r2, vs, r3, ql, r4⟩ := q; exact ⟨r1, r2, vs, by rw [upd_ne (oth n' _ b q1 q2 trivial e)]; exact r3, ql, r4⟩
      | ins c ns ws => obtain ⟨r1, r2, dx, vs, r3, ql, r4⟩ := q; exact ⟨r1, r2, dx, vs, by rw [upd_ne (oth n' _ b q1 q2 trivial e)]; exact r3, ql, r4⟩
      | frz p => exact q
  · have back : ∀ (k : Nat) (d : Cell), (S.set n c')[k]? = some d → live d → ∃ d', S[k]? = some d' ∧ live d' := fun k d q l => by
      rw [List.getElem?_set] at q
      by_cases e : n = k
      · subst e; exact ⟨c, h1, hl⟩
      · rw [if_neg e] at q; exact ⟨d, q, l⟩
    obtain ⟨d1', r1, l1'⟩ := back n1 d1 q1 l1
    obtain ⟨d2', r2, l2'⟩ := back n2 d2 q2 l2
    exact g.inj n1 n2 d1' d2' b r1 r2 l1' l2' e1 e2
theorem Gd.addr (g : Gd K CT s S H) {n : Nat} {c : Cell} (h : S[n]? = some c) : ∃ a, s.m[n]? = some a := by
  have := (List.getElem?_eq_some_iff.mp h).1
  rw [← g.len] at this
  exact ⟨_, List.getElem?_eq_getElem this⟩
end
end Z
end
-- part Z1
section
set_option Elab.async false
set_option linter.all false
set_option maxRecDepth 100000
set_option autoImplicit false
namespace Z
open PySem PySem.Spec PyProof.Rows L2

def RE.bind {α β : Type} (r : RE α) (k : α → Store → RE β) : RE β := match r with
  | .ok a S => k a S
  | .ex x S => .ex x S
  | .bad => .bad
def RG {α β : Type} (K : PySem.W.Frag) (CT : CTb) (Rel : Fs → α → β → Prop) (s : Fs) (r : RE α) (Q : β → Hp → Prop) (EX : Value → Option Addr → Hp → Prop) : Prop :=
  match r with
  | .ok a S' => ∀ s' H' b, Ext s s' → Gd K CT s' S' H' → Rel s' a b → Q b H'
  | .ex x S' => ∀ s' H' c dd, Ext s s' → Gd K CT s' S' H' → RepX K CT s'.F x c dd → EX c dd H'
  | .bad => False
section
variable {K : PySem.W.Frag} {CT : CTb} {s s' : Fs} {α β γ δ : Type} {Ra : Fs → α → γ → Prop} {Rb : Fs → β → δ → Prop} {EX : Value → Option Addr → Hp → Prop}
theorem RG.ext {r : RE α} {Q : γ → Hp → Prop} (e : Ext s s') (h : RG K CT Ra s r Q EX) : RG K CT Ra s' r Q EX := by
  cases r with
  | ok a S => exact fun s2 H2 b x g q => h s2 H2 b (e.trans x) g q
  | ex x S => exact fun s2 H2 c dd x g q => h s2 H2 c dd (e.trans x) g q
  | bad => exact h
theorem RG.step {r : RE α} {k : α → Store → RE β} {Q : δ → Hp → Prop} {Q1 : γ → Hp → Prop} (h : RG K CT Rb s (r.bind k) Q EX)
    (hk : ∀ a S1 s1 H1 b, Ext s s1 → Gd K CT s1 S1 H1 → Ra s1 a b → RG K CT Rb s1 (k a S1) Q EX → Q1 b H1) : RG K CT Ra s r Q1 EX := by
  cases r with
  | ok a S => exact fun s2 H2 b x g q => hk a S s2 H2 b x g q (RG.ext x h)
  | ex x S => exact h
  | bad => exact h
theorem RG.here {a : α} {S : Store} {H : Hp} {b : γ} {Q : γ → Hp → Prop} (h : RG K CT Ra s (.ok a S) Q EX) (g : Gd K CT s S H) (r : Ra s a b) : Q b H := h s H b (Ext.refl s) g r
theorem RG.imp {r : RE α} {Q Q1 : γ → Hp → Prop} (h : RG K CT Ra s r Q EX) (q : ∀ b H, Q b H → Q1 b H) : RG K CT Ra s r Q1 EX := by
  cases r with
  | ok a S => exact fun s2 H2 b x g r => q _ _ (h s2 H2 b x g r)
  | ex x S => exact h
  | bad => exact h
end

section
variable (K : PySem.W.Frag) (CT : CTb) (U : WX)
def canE (f : FE W) : TE := fun σ H Q => ∃ s S ρ, Gd K CT s S H ∧ EnvOk K CT s ρ σ ∧ RG K CT (RepW K CT) s (f ρ S) Q (fun c d H' => U c d σ H')
def canT (f : FE Bool) : TT := fun σ H Q => ∃ s S ρ, Gd K CT s S H ∧ EnvOk K CT s ρ σ ∧ RG K CT (fun _ a b => a = b) s (f ρ S) Q (fun c d H' => U c d σ H')
def canA (f : FE (List W)) : TA := fun σ H Q => ∃ s S ρ, Gd K CT s S H ∧ EnvOk K CT s ρ σ ∧ RG K CT (RepWs K CT) s (f ρ S) Q (fun c d H' => U c d σ H')
end
abbrev PZ (X : Cx) (CT : CTb) (U : WX) (e : Expr) (f : FE W) : Prop := PE X e (canE X.K CT U f)
abbrev PZT (X : Cx) (CT : CTb) (U : WX) (e : Expr) (f : FE Bool) : Prop := PT X e (canT X.K CT U f)
abbrev PZA (X : Cx) (CT : CTb) (U : WX) (es : List Expr) (f : FE (List W)) : Prop := PA X es (canA X.K CT U f)
theorem weakE {X : Cx} {e : Expr} {t t' : TE} (h : PE X e t) (w : ∀ σ H Q, t' σ H Q → t σ H Q) : PE X e t' := ⟨fun pins s σ H Q I q => h.run pins s σ H Q I (w σ H Q q)⟩
theorem weakT {X : Cx} {e : Expr} {t t' : TT} (h : PT X e t) (w : ∀ σ H Q, t' σ H Q → t σ H Q) : PT X e t' := ⟨fun pins s σ H Q I q => h.run pins s σ H Q I (w σ H Q q)⟩
theorem weakW {X : Cx} {e : Expr} {t t' : TT} (h : PW X e t) (w : ∀ σ H Q, t' σ H Q → t σ H Q) : PW X e t' := ⟨fun wh pins s σ H Q I q => h.run wh pins s σ H Q I (w σ H Q q)⟩
theorem weakA {X : Cx} {e : List Expr} {t t' : TA} (h : PA X e t) (w : ∀ σ H Q, t' σ H Q → t σ H Q) : PA X e t' := ⟨fun pos pins s σ H Q I q => h.run pos pins s σ H Q I (w σ H Q q)⟩

/-! ### atoms -/
def eVar (i : Nat) : FE W := fun ρ S => match ρ[i]? with
  | some (some w) => .ok w S
  | _ => .bad
def eCst (p : P) : FE W := fun _ S => .ok (.val p) S
section
variable {X : Cx} {CT : CTb} {U : WX}
theorem pz_var (i : Nat) {x : Str} {pos : Pos} (hN : X.N[i]? = some x := by rfl) (hv : Vis X.env.scope x := by first | exact Or.inl rfl | exact Or.inr (Or.inl rfl) | exact Or.inr (Or.inr rfl)) (hd : (x == ("__debug__" : Str)) = false := by decide)
    (hcd : (x == ("__classdict__" : Str)) = false := by decide) : PZ X CT U (.Name x pos) (eVar i) := weakE (pe_var hN hv hd hcd) fun σ H Q ⟨s, S, ρ, g, en, h⟩ => by
  unfold eVar at h
  cases e : ρ[i]? with
  | none => rw [e] at h; exact h.elim
  | some o =>
    cases o with
    | none => rw [e] at h; exact h.elim
    | some w =>
      rw [e] at h
      obtain ⟨v, h1, h2⟩ := en.get i w e
      exact ⟨v, h1, RG.here h g h2⟩
theorem pz_int {i : Int} {j : Nat} {pos : Pos} : PZ X CT U (.Constant (.int i) j pos) (eCst (.int i)) := weakE pe_int fun σ H Q ⟨s, S, ρ, g, en, h⟩ => RG.here h g rfl
theorem pz_bl {i : Bool} {j : Nat} {pos : Pos} : PZ X CT U (.Constant (.bool i) j pos) (eCst (.bl i)) := weakE pe_bl fun σ H Q ⟨s, S, ρ, g, en, h⟩ => RG.here h g rfl
theorem pz_non {j : Nat} {pos : Pos} : PZ X CT U (.Constant .none j pos) (eCst .non) := weakE pe_non fun σ H Q ⟨s, S, ρ, g, en, h⟩ => RG.here h g rfl
theorem pz_str {i : Str} {j : Nat} {pos : Pos} : PZ X CT U (.Constant (.str i) j pos) (eCst (.str i)) := weakE pe_str fun σ H Q ⟨s, S, ρ, g, en, h⟩ => RG.here h g rfl
/-- a constant of the module -/
def H0 : Hp := fun _ => none
theorem Ex.h0 (H : Hp) : Ex H0 H := fun _ _ h => by cases h
structure GloOk (K : PySem.W.Frag) (CT : CTb) (mg : Str → Option Value) (x : Str) (p : P) : Prop where
  ok : ∃ u v, mg x = some u ∧ RelV v u ∧ RepP K CT H0 p v
theorem pz_glob {x : Str} {pos : Pos} {p : P} (hg : Gl X x) (h : GloOk X.K CT X.mg x p) (hd : (x == ("__debug__" : Str)) = false := by decide) : PZ X CT U (.Name x pos) (eCst p) := by
  obtain ⟨u, v, h1, h2, h3⟩ := h
  exact weakE (pe_glob hg h1 h2 hd) fun σ H Q ⟨s, S, ρ, g, en, h⟩ => RG.here h g (RepP.mono (Ex.h0 _) h3)
end

/-! ### arguments -/
def aNil : FE (List W) := fun _ S => .ok [] S
def aCons (f : FE W) (r : FE (List W)) : FE (List W) := fun ρ S => (f ρ S).bind fun w S1 => (r ρ S1).bind fun ws S2 => .ok (w :: ws) S2
section
variable {X : Cx} {CT : CTb} {U : WX}
theorem za_nil : PZA X CT U [] aNil := weakA pa_nil fun σ H Q ⟨s, S, ρ, g, en, h⟩ => RG.here h g rfl
theorem za_cons {e : Expr} {es : List Expr} {f : FE W} {r : FE (List W)} (ha : PZ X CT U e f) (hr : PZA X CT U es r) (hs : starEach (e :: es) X.env = (false, eval e X.env) :: starEach es X.env := by rfl) : PZA X CT U (e :: es) (aCons f r) :=
  weakA (pa_cons ha hr hs) fun σ H Q ⟨s, S, ρ, g, en, h⟩ => by
    refine ⟨s, S, ρ, g, en, RG.step h fun w S1 s1 H1 v x1 g1 r1 h1 => ?_⟩
    refine ⟨s1, S1, ρ, g1, en.mono x1, RG.step h1 fun ws S2 s2 H2 vs x2 g2 r2 h2 => ?_⟩
    exact RG.here h2 g2 ⟨v, vs, rfl, r1.mono x2, r2⟩
end

/-! ### operators -/
abbrev O2 := W → W → Store → RE W
def eBin (op : O2) (fa fb : FE W) : FE W := fun ρ S => (fa ρ S).bind fun a S1 => (fb ρ S1).bind fun b S2 => op a b S2
def eUn (op : W → Store → RE W) (fa : FE W) : FE W := fun ρ S => (fa ρ S).bind fun a S1 => op a S1
/-- an operator's reading is served -/
def OpZ (K : PySem.W.Frag) (CT : CTb) (r : R2) (op : O2) : Prop := ∀ (s : Fs) (S : Store) (H : Hp) (a b : W) (x y : V) (Q : VK) (EX : Value → Option Addr → Hp → Prop),
  Gd K CT s S H → RepW K CT s a x → RepW K CT s b y → RG K CT (RepW K CT) s (op a b S) Q EX → r x y H Q
def UnZ (K : PySem.W.Frag) (CT : CTb) (r : V → Hp → VK → Prop) (op : W → Store → RE W) : Prop := ∀ (s : Fs) (S : Store) (H : Hp) (a : W) (x : V) (Q : VK) (EX : Value → Option Addr → Hp → Prop),
  Gd K CT s S H → RepW K CT s a x → RG K CT (RepW K CT) s (op a S) Q EX → r x H Q
section
variable {X : Cx} {CT : CTb} {U : WX} {a b c : Expr} {fa fb fc : FE W} {r r' : R2} {g g' : O2} {pos : Pos}
theorem bin_can (hz : OpZ X.K CT r g) {σ : L2.St} {H : Hp} {Q : VK} (h : canE X.K CT U (eBin g fa fb) σ H Q) : tOp r (canE X.K CT U fa) (canE X.K CT U fb) σ H Q := by
  obtain ⟨s, S, ρ, gd, en, h⟩ := h
  refine ⟨s, S, ρ, gd, en, RG.step h fun w S1 s1 H1 v x1 g1 r1 h1 => ?_⟩
  refine ⟨s1, S1, ρ, g1, en.mono x1, RG.step h1 fun ws S2 s2 H2 vs x2 g2 r2 h2 => ?_⟩
  exact hz s2 S2 H2 w ws v vs Q _ g2 (r1.mono x2) r2 h2
theorem pz_bin {op : Operator} (ho : OpR X (binaryOp op) r) (hz : OpZ X.K CT r g) (ha : PZ X CT U a fa) (hb : PZ X CT U b fb) : PZ X CT U (.BinOp a op b pos) (eBin g fa fb) :=
  weakE (pe_op ho ha hb) fun σ H Q h => bin_can hz h
theorem pz_cmp {op : CmpOp} (ho : OpR X (compareOp op) r) (hz : OpZ X.K CT r g) (ha : PZ X CT U a fa) (hb : PZ X CT U b fb) (hm : behindInMarks op b = false) : PZ X CT U (.Compare a [op] [b] pos) (eBin g fa fb) :=
  weakE (pe_cmpR ho ha hb hm) fun σ H Q h => bin_can hz h
theorem pz_un {op : UnaryOp} {ru : V → Hp → VK → Prop} {gu : W → Store → RE W} (ho : UnR X (unaryOp op) ru) (hz : UnZ X.K CT ru gu) (ha : PZ X CT U a fa) : PZ X CT U (.UnaryOp op a pos) (eUn gu fa) :=
  weakE (pe_un ho ha) fun σ H Q ⟨s, S, ρ, gd, en, h⟩ => ⟨s, S, ρ, gd, en, RG.step h fun w S1 s1 H1 v x1 g1 r1 h1 => hz s1 S1 H1 w v Q _ g1 r1 h1⟩

/-! ### tests -/
def asB : W → Store → RE Bool
  | .val (.bl b), S => .ok b S
  | _, _ => .bad
def tstB (f : FE W) : FE Bool := fun ρ S => (f ρ S).bind asB
theorem asB_ok {K : PySem.W.Frag} {s : Fs} {S : Store} {H : Hp} {w : W} {v : V} {Q : Bool → Hp → Prop} {EX : Value → Option Addr → Hp → Prop} (gd : Gd K CT s S H) (r : RepW K CT s w v) (h : RG K CT (fun _ a b => a = b) s (asB w S) Q EX) :
    ∃ k, v = .bl k ∧ Q k H := by
  cases w with
  | loc n => exact h.elim
  | exc => exact h.elim
  | val p =>
    cases p with
    | bl b => exact ⟨b, r, RG.here h gd rfl⟩
    | _ => exact h.elim
theorem tst_can {σ : L2.St} {H : Hp} {Q : Bool → Hp → Prop} (h : canT X.K CT U (tstB fa) σ H Q) : tTest (canE X.K CT U fa) σ H Q := by
  obtain ⟨s, S, ρ, gd, en, h⟩ := h
  exact ⟨s, S, ρ, gd, en, RG.step h fun w S1 s1 H1 v x1 g1 r1 h1 => asB_ok g1 r1 h1⟩
theorem zt_val (ha : PZ X CT U a fa) (he : ∀ whole, isTrue a X.env whole = (do let v ← whole; standAt a.pos; holding [v] (truthy v)) := by intro _; rfl) : PZT X CT U a (tstB fa) := weakT (pt_val ha he) fun σ H Q h => tst_can h
theorem zt_cmp {op : CmpOp} (ho : OpR X (compareOp op) r) (hz : OpZ X.K CT r g) (ha : PZ X CT U a fa) (hb : PZ X CT U b fb) (hm : behindInMarks op b = false) : PZT X CT U (.Compare a [op] [b] pos) (tstB (eBin g fa fb)) :=
  weakT (pt_cmpR ho ha hb hm) fun σ H Q h => by
    obtain ⟨s, S, ρ, gd, en, h⟩ := h
    exact bin_can hz ⟨s, S, ρ, gd, en, RG.step h fun w S1 s1 H1 v x1 g1 r1 h1 => asB_ok g1 r1 h1⟩
def tNotB (f : FE Bool) : FE Bool := fun ρ S => (f ρ S).bind fun b S1 => .ok (!b) S1
def tAndB (f u : FE Bool) : FE Bool := fun ρ S => (f ρ S).bind fun b S1 => if b = true then u ρ S1 else .ok false S1
def tOrB (f u : FE Bool) : FE Bool := fun ρ S => (f ρ S).bind fun b S1 => if b = true then .ok true S1 else u ρ S1
variable {ta tb : FE Bool} {rest : List Expr}
theorem zt_not (ha : PZT X CT U a ta) : PZT X CT U (.UnaryOp .Not a pos) (tNotB ta) := weakT (pt_not ha) fun σ H Q ⟨s, S, ρ, gd, en, h⟩ =>
  ⟨s, S, ρ, gd, en, RG.step h fun w S1 s1 H1 v x1 g1 r1 h1 => RG.here h1 g1 (by rw [r1])⟩
abbrev PZW (X : Cx) (CT : CTb) (U : WX) (e : Expr) (f : FE Bool) : Prop := PW X e (canT X.K CT U f)
theorem zw_and1 (ha : PZT X CT U a ta) : PZW X CT U (.BoolOp .And [a] pos) ta := pw_and1 ha
theorem zw_or1 (ha : PZT X CT U a ta) : PZW X CT U (.BoolOp .Or [a] pos) ta := pw_or1 ha
theorem zw_and (ha : PZT X CT U a ta) (hb : PZW X CT U (.BoolOp .And (b :: rest) pos) tb) : PZW X CT U (.BoolOp .And (a :: b :: rest) pos) (tAndB ta tb) := weakW (pw_and ha hb) fun σ H Q ⟨s, S, ρ, gd, en, h⟩ =>
  ⟨s, S, ρ, gd, en, RG.step h fun w S1 s1 H1 v x1 g1 r1 h1 => by
    subst r1
    cases w with
    | true => exact ⟨s1, S1, ρ, g1, en.mono x1, h1⟩
    | false => exact RG.here h1 g1 rfl⟩
theorem zw_or (ha : PZT X CT U a ta) (hb : PZW X CT U (.BoolOp .Or (b :: rest) pos) tb) : PZW X CT U (.BoolOp .Or (a :: b :: rest) pos) (tOrB ta tb) := weakW (pw_or ha hb) fun σ H Q ⟨s, S, ρ, gd, en, h⟩ =>
  ⟨s, S, ρ, gd, en, RG.step h fun w S1 s1 H1 v x1 g1 r1 h1 => by
    subst r1
    cases w with
    | false => exact ⟨s1, S1, ρ, g1, en.mono x1, h1⟩
    | true => exact RG.here h1 g1 rfl⟩
theorem zt_bool (h : PZW X CT U a ta) : PZT X CT U a ta := h.pt
/-- a chain of two comparisons -/
def eChain (g g' : O2) (fa fb fc : FE W) : FE W := fun ρ S => (fa ρ S).bind fun a S1 => (fb ρ S1).bind fun b S2 => (g a b S2).bind fun k S3 => (asB k S3).bind fun k S4 => if k = true then (fc ρ S4).bind fun c S5 => g' b c S5 else .ok (.val (.bl false)) S4
theorem chain_can (hz : OpZ X.K CT r g) (hz' : OpZ X.K CT r' g') {σ : L2.St} {H : Hp} {Q : VK} (h : canE X.K CT U (eChain g g' fa fb fc) σ H Q) : tChain r r' (canE X.K CT U fa) (canE X.K CT U fb) (canE X.K CT U fc) σ H Q := by
  obtain ⟨s, S, ρ, gd, en, h⟩ := h
  refine ⟨s, S, ρ, gd, en, RG.step h fun w S1 s1 H1 v x1 g1 r1 h1 => ?_⟩
  refine ⟨s1, S1, ρ, g1, en.mono x1, RG.step h1 fun ws S2 s2 H2 vs x2 g2 r2 h2 => ?_⟩
  refine hz s2 S2 H2 w ws v vs _ _ g2 (r1.mono x2) r2 (RG.step h2 fun kw S3 s3 H3 kv x3 g3 r3 h3 => ?_)
  obtain ⟨k, e, q⟩ := asB_ok (Q := fun k H => if k = true then canE X.K CT U fc σ H fun w' H4 => r' vs w' H4 Q else Q (.bl false) H) g3 r3 (RG.step h3 fun k S4 s4 H4 k' x4 g4 r4 h4 => by
    subst r4
    cases k with
    | false => exact RG.here h4 g4 rfl
    | true =>
      refine ⟨s4, S4, ρ, g4, (((en.mono x1).mono x2).mono x3).mono x4, RG.step h4 fun c S5 s5 H5 cv x5 g5 r5 h5 => ?_⟩
      exact hz' s5 S5 H5 ws c vs cv Q _ g5 (((r2.mono x3).mono x4).mono x5) r5 h5)
  exact ⟨k, e, q⟩
theorem pz_chain {op op' : CmpOp} (ho : OpR X (compareOp op) r) (hz : OpZ X.K CT r g) (ho' : OpR X (compareOp op') r') (hz' : OpZ X.K CT r' g') (ha : PZ X CT U a fa) (hb : PZ X CT U b fb) (hc : PZ X CT U c fc)
    (hm : lastMarks [op, op'] [b, c] = false := by with_unfolding_all rfl) : PZ X CT U (.Compare a [op, op'] [b, c] pos) (eChain g g' fa fb fc) :=
  weakE (pe_chain ho ho' ha hb hc hm) fun σ H Q h => chain_can hz hz' h
theorem zt_chain {op op' : CmpOp} (ho : OpR X (compareOp op) r) (hz : OpZ X.K CT r g) (ho' : OpR X (compareOp op') r') (hz' : OpZ X.K CT r' g') (ha : PZ X CT U a fa) (hb : PZ X CT U b fb) (hc : PZ X CT U c fc)
    (hm : lastMarks [op, op'] [b, c] = false := by with_unfolding_all rfl) : PZT X CT U (.Compare a [op, op'] [b, c] pos) (tstB (eChain g g' fa fb fc)) :=
  weakT (pt_chain ho ho' ha hb hc hm) fun σ H Q h => by
    obtain ⟨s, S, ρ, gd, en, h⟩ := h
    exact chain_can hz hz' ⟨s, S, ρ, gd, en, RG.step h fun w S1 s1 H1 v x1 g1 r1 h1 => asB_ok g1 r1 h1⟩
/-! ### and, or, not as values of bools; x if t else y -/
def eAnd (fa fb : FE W) : FE W := fun ρ S => (fa ρ S).bind fun a S1 => (asB a S1).bind fun k S2 => if k = true then fb ρ S2 else .ok (.val (.bl false)) S2
def eOr (fa fb : FE W) : FE W := fun ρ S => (fa ρ S).bind fun a S1 => (asB a S1).bind fun k S2 => if k = true then .ok (.val (.bl true)) S2 else fb ρ S2
def eNot (fa : FE W) : FE W := fun ρ S => (fa ρ S).bind fun a S1 => (asB a S1).bind fun k S2 => .ok (.val (.bl (!k))) S2
def eIf (t : FE Bool) (fa fb : FE W) : FE W := fun ρ S => (t ρ S).bind fun k S1 => if k = true then fa ρ S1 else fb ρ S1
theorem pz_one {op : BoolOp} (ha : PZ X CT U a fa) : PZ X CT U (.BoolOp op [a] pos) fa := pe_one ha
theorem pz_and (ha : PZ X CT U a fa) (hb : PZ X CT U (.BoolOp .And (b :: rest) pos) fb) : PZ X CT U (.BoolOp .And (a :: b :: rest) pos) (eAnd fa fb) := weakE (pe_and ha hb) fun σ H Q ⟨s, S, ρ, gd, en, h⟩ =>
  ⟨s, S, ρ, gd, en, RG.step h fun w S1 s1 H1 v x1 g1 r1 h1 => asB_ok (Q := fun c H => if c = true then canE X.K CT U fb σ H Q else Q (.bl false) H) g1 r1 (RG.step h1 fun k S2 s2 H2 k' x2 g2 r2 h2 => by
    subst r2
    cases k with
    | true => exact ⟨s2, S2, ρ, g2, (en.mono x1).mono x2, h2⟩
    | false => exact RG.here h2 g2 rfl)⟩
theorem pz_or (ha : PZ X CT U a fa) (hb : PZ X CT U (.BoolOp .Or (b :: rest) pos) fb) : PZ X CT U (.BoolOp .Or (a :: b :: rest) pos) (eOr fa fb) := weakE (pe_or ha hb) fun σ H Q ⟨s, S, ρ, gd, en, h⟩ =>
  ⟨s, S, ρ, gd, en, RG.step h fun w S1 s1 H1 v x1 g1 r1 h1 => asB_ok (Q := fun c H => if c = true then Q (.bl true) H else canE X.K CT U fb σ H Q) g1 r1 (RG.step h1 fun k S2 s2 H2 k' x2 g2 r2 h2 => by
    subst r2
    cases k with
    | false => exact ⟨s2, S2, ρ, g2, (en.mono x1).mono x2, h2⟩
    | true => exact RG.here h2 g2 rfl)⟩
theorem pz_not (ha : PZ X CT U a fa) : PZ X CT U (.UnaryOp .Not a pos) (eNot fa) := weakE (pe_not ha) fun σ H Q ⟨s, S, ρ, gd, en, h⟩ =>
  ⟨s, S, ρ, gd, en, RG.step h fun w S1 s1 H1 v x1 g1 r1 h1 => asB_ok (Q := fun c H => Q (.bl (!c)) H) g1 r1 (RG.step h1 fun k S2 s2 H2 k' x2 g2 r2 h2 => by
    subst r2
    exact RG.here h2 g2 rfl)⟩
theorem pz_if (ht : PZT X CT U c ta) (ha : PZ X CT U a fa) (hb : PZ X CT U b fb) : PZ X CT U (.IfExp c a b pos) (eIf ta fa fb) := weakE (pe_ifExp ht ha hb) fun σ H Q ⟨s, S, ρ, gd, en, h⟩ =>
  ⟨s, S, ρ, gd, en, RG.step h fun k S1 s1 H1 v x1 g1 r1 h1 => by
    subst r1
    cases k with
    | true => exact ⟨s1, S1, ρ, g1, en.mono x1, h1⟩
    | false => exact ⟨s1, S1, ρ, g1, en.mono x1, h1⟩⟩
end
end Z
end
-- part Z2
section
set_option Elab.async false
set_option linter.all false
set_option maxRecDepth 100000
set_option autoImplicit false
namespace Z
open PySem PySem.Spec PyProof.Rows L2

/-! ### looking through the store -/
def valAll : List W → Option (List P)
  | [] => some []
  | .val p :: ws => (valAll ws).map (p :: ·)
  | _ :: _ => none
/-- a list (made by the program) as data -/
def lstP (S : Store) : W → Option (List P)
  | .val (.lst ps) => some ps
  | .loc n => match S[n]? with
    | some (.lst ws) => valAll ws
    | some (.frz (.lst ps)) => some ps
    | _ => none
  | _ => none
/-- data, a list's content included -/
def pOf (S : Store) : W → Option P
  | .val p => some p
  | .loc n => match S[n]? with
    | some (.lst ws) => (valAll ws).map .lst
    | some (.frz p) => some p
    | _ => none
  | .exc => none
section
variable {K : PySem.W.Frag} {CT : CTb} {s : Fs} {S : Store} {H : Hp}
theorem valAll_ok : ∀ {ws : List W} {ps : List P} {vs : List V}, valAll ws = some ps → RepWs K CT s ws vs → RepL K CT s.F ps vs
  | [], _, _, e, h => by cases e; exact h
  | .val p :: ws, _, _, e, ⟨v, vs', h1, h2, h3⟩ => by
    simp only [valAll, Option.map_eq_some_iff] at e
    obtain ⟨qs, e1, rfl⟩ := e
    exact ⟨v, vs', h1, h2, valAll_ok e1 h3⟩
  | .loc _ :: ws, _, _, e, h => by cases e
  | .exc :: ws, _, _, e, h => by cases e
/-- data, at the heap as it is -/
def RepN (K : PySem.W.Frag) (CT : CTb) (s : Fs) (H : Hp) (p : P) (v : V) : Prop :=
  RepP K CT s.F p v ∨ ∃ ps a vs, p = .lst ps ∧ v = .ref a ∧ H a = some (.lst vs) ∧ RepL K CT s.F ps vs
theorem pOf_ok (g : Gd K CT s S H) {w : W} {v : V} {p : P} (r : RepW K CT s w v) (e : pOf S w = some p) : RepN K CT s H p v := by
  cases w with
  | val q => cases e; exact .inl r
  | loc n =>
    obtain ⟨a, h1, rfl⟩ := r
    unfold pOf at e
    cases hc : S[n]? with
    | none => simp [hc] at e
    | some c =>
      have q := g.cells n c a hc h1
      cases c with
      | lst ws =>
        simp only [hc, Option.map_eq_some_iff] at e
        obtain ⟨ps, e1, rfl⟩ := e
        obtain ⟨_, _, vs, q3, q4⟩ := q
        exact .inr ⟨ps, a, vs, rfl, rfl, q3, valAll_ok e1 q4⟩
      | ins c ns ws => simp [hc] at e
      | dct c ws => simp [hc] at e
      | dcu c ws => simp [hc] at e
      | frz p' => simp only [hc] at e; cases e; exact .inl q
  | exc => cases e
theorem RepN.lst (g : Gd K CT s S H) {ps : List P} {v : V} (r : RepN K CT s H (.lst ps) v) : ∃ a vs, v = .ref a ∧ H a = some (.lst vs) ∧ RepL K CT s.F ps vs := by
  rcases r with ⟨a, vs, h1, h2, h3⟩ | ⟨qs, a, vs, e, h1, h2, h3⟩
  · exact ⟨a, vs, h1, g.exF _ _ h2, h3⟩
  · cases e; exact ⟨a, vs, h1, h2, h3⟩
theorem RepN.non_lst {p : P} {v : V} (r : RepN K CT s H p v) (h : ∀ ps, p ≠ .lst ps) : RepP K CT s.F p v := by
  rcases r with r | ⟨ps, _, _, e, _⟩
  · exact r
  · exact absurd e (h ps)
end

/-! ### whole numbers -/
def iOp (C : Int → Int → Bool) (g : Int → Int → P) : O2
  | .val (.int i), .val (.int j), S => if C i j = true then .ok (.val (g i j)) S else .bad
  | _, _, _ => .bad
theorem ints_of {K : PySem.W.Frag} {CT : CTb} {C : Int → Int → Bool} {g : Int → Int → P} {a b : W} {S : Store} {s : Fs} {x y : V} {Q : VK} {EX : Value → Option Addr → Hp → Prop} (ra : RepW K CT s a x) (rb : RepW K CT s b y)
    (h : RG K CT (RepW K CT) s (iOp C g a b S) Q EX) : ∃ i j, x = .int i ∧ y = .int j ∧ C i j = true ∧ RG K CT (RepW K CT) s (.ok (.val (g i j)) S) Q EX := by
  unfold iOp at h
  split at h
  · rename_i i j
    by_cases c : C i j = true
    · rw [if_pos c] at h; exact ⟨i, j, ra, rb, c, h⟩
    · rw [if_neg c] at h; exact h.elim
  · exact h.elim
section
variable {K : PySem.W.Frag} {CT : CTb}
theorem oz_int {C : Int → Int → Prop} {C' : Int → Int → Bool} {g : Int → Int → V} {g' : Int → Int → P} (hC : ∀ i j, C' i j = true → C i j) (hg : ∀ i j F, RepP K CT F (g' i j) (g i j)) : OpZ K CT (rI C g) (iOp C' g') := fun s S H a b x y Q EX gd ra rb h => by
  obtain ⟨i, j, h1, h2, c, h⟩ := ints_of ra rb h
  exact ⟨i, j, h1, h2, hC i j c, RG.here h gd (hg i j _)⟩
theorem oz_int0 {g : Int → Int → V} {g' : Int → Int → P} (hg : ∀ i j F, RepP K CT F (g' i j) (g i j)) : OpZ K CT (rI0 g) (iOp (fun _ _ => true) g') := fun s S H a b x y Q EX gd ra rb h => by
  obtain ⟨i, j, h1, h2, c, h⟩ := ints_of ra rb h
  exact ⟨i, j, h1, h2, RG.here h gd (hg i j _)⟩
end
abbrev subW : O2 := iOp (fun _ _ => true) fun i j => .int (i - j)
abbrev fdivW : O2 := iOp (fun _ j => decide (0 < j) && decide (j < 2 ^ 64)) fun i j => .int (i / j)
abbrev modW : O2 := iOp (fun _ j => decide (0 < j)) fun i j => .int (i % j)
abbrev powW : O2 := iOp (fun i j => decide (0 ≤ j) && decide (j ≤ 1000000) && decide (i.natAbs < 2 ^ 64)) fun i j => .int (i ^ j.toNat)
abbrev shlW : O2 := iOp (fun i j => decide (0 ≤ j) && decide (j ≤ 1000000) && decide (i.natAbs < 2 ^ 64)) fun i j => .int (i * 2 ^ j.toNat)
abbrev shrW : O2 := iOp (fun _ j => decide (0 ≤ j)) fun i j => .int (i / 2 ^ j.toNat)
abbrev bandW : O2 := iOp (fun _ _ => true) fun i j => .int (Builtin.bitAnd i j)
abbrev ltW : O2 := iOp (fun _ _ => true) fun i j => .bl (decide (i < j))
abbrev leW : O2 := iOp (fun _ _ => true) fun i j => .bl (decide (i ≤ j))
abbrev gtW : O2 := iOp (fun _ _ => true) fun i j => .bl (decide (j < i))
abbrev geW : O2 := iOp (fun _ _ => true) fun i j => .bl (decide (j ≤ i))
def negW : W → Store → RE W
  | .val (.int i), S => .ok (.val (.int (-i))) S
  | _, _ => .bad
section
variable {X : Cx} {CT : CTb} {U : WX} {a b c : Expr} {fa fb fc : FE W} {pos : Pos}
theorem log2_64 {j : Int} (h : j.natAbs < 2 ^ 64) : j.natAbs.log2 < 9000 := Nat.lt_of_lt_of_le (PySem.Flt.log2_lt_of (by decide : 0 < 64) h) (by decide)
theorem pz_sub (ha : PZ X CT U a fa) (hb : PZ X CT U b fb) : PZ X CT U (.BinOp a .Sub b pos) (eBin subW fa fb) := pz_bin op_sub (oz_int0 fun _ _ _ => rfl) ha hb
theorem pz_fdiv (ha : PZ X CT U a fa) (hb : PZ X CT U b fb) : PZ X CT U (.BinOp a .FloorDiv b pos) (eBin fdivW fa fb) :=
  pz_bin op_fdivW (oz_int (fun i j h => by
    simp only [Bool.and_eq_true, decide_eq_true_eq] at h
    exact ⟨h.1, log2_64 (by omega)⟩) fun _ _ _ => rfl) ha hb
theorem pz_mod (ha : PZ X CT U a fa) (hb : PZ X CT U b fb) : PZ X CT U (.BinOp a .Mod b pos) (eBin modW fa fb) := pz_bin op_mod (oz_int (fun i j h => of_decide_eq_true h) fun _ _ _ => rfl) ha hb
theorem pz_pow (ha : PZ X CT U a fa) (hb : PZ X CT U b fb) : PZ X CT U (.BinOp a .Pow b pos) (eBin powW fa fb) :=
  pz_bin op_pow (oz_int (fun i j h => by simp only [Bool.and_eq_true, decide_eq_true_eq] at h; exact ⟨h.1.1, h.1.2, h.2⟩) fun _ _ _ => rfl) ha hb
theorem pz_shl (ha : PZ X CT U a fa) (hb : PZ X CT U b fb) : PZ X CT U (.BinOp a .LShift b pos) (eBin shlW fa fb) :=
  pz_bin op_shl (oz_int (fun i j h => by simp only [Bool.and_eq_true, decide_eq_true_eq] at h; exact ⟨h.1.1, h.1.2, h.2⟩) fun _ _ _ => rfl) ha hb
theorem pz_shr (ha : PZ X CT U a fa) (hb : PZ X CT U b fb) : PZ X CT U (.BinOp a .RShift b pos) (eBin shrW fa fb) := pz_bin op_shr (oz_int (fun i j h => of_decide_eq_true h) fun _ _ _ => rfl) ha hb
theorem pz_band (ha : PZ X CT U a fa) (hb : PZ X CT U b fb) : PZ X CT U (.BinOp a .BitAnd b pos) (eBin bandW fa fb) := pz_bin op_and (oz_int0 fun _ _ _ => rfl) ha hb
theorem oz_lt {K : PySem.W.Frag} : OpZ K CT (rI0 fun i j => .bl (decide (i < j))) ltW := oz_int0 fun _ _ _ => rfl
theorem oz_le {K : PySem.W.Frag} : OpZ K CT (rI0 fun i j => .bl (decide (i ≤ j))) leW := oz_int0 fun _ _ _ => rfl
theorem oz_gt {K : PySem.W.Frag} : OpZ K CT (rI0 fun i j => .bl (decide (j < i))) gtW := oz_int0 fun _ _ _ => rfl
theorem oz_ge {K : PySem.W.Frag} : OpZ K CT (rI0 fun i j => .bl (decide (j ≤ i))) geW := oz_int0 fun _ _ _ => rfl
theorem pz_neg (ha : PZ X CT U a fa) : PZ X CT U (.UnaryOp .USub a pos) (eUn negW fa) := pz_un un_neg (fun s S H a x Q EX gd ra h => by
  unfold negW at h
  split at h
  · rename_i i; exact ⟨i, ra, RG.here h gd rfl⟩
  · exact h.elim) ha
end

/-! ### + -/
def addW : O2 := fun a b S => match pOf S a, pOf S b with
  | some (.int i), some (.int j) => .ok (.val (.int (i + j))) S
  | some (.str x), some (.str y) => if x.length + y.length ≤ 1000000 then .ok (.val (.str (x ++ y))) S else .bad
  | some (.tup ps), some (.tup qs) => if ps.length + qs.length ≤ 100000 then .ok (.val (.tup (ps ++ qs))) S else .bad
  | some (.lst ps), some (.lst qs) => if ps.length + qs.length ≤ 100000 then .ok (.val (.lst (ps ++ qs))) S else .bad
  | _, _ => .bad
theorem OpR.or {X : Cx} {f : Value → Value → Sem Value} {r r' : R2} (h : OpR X f r) (h' : OpR X f r') : OpR X f (fun x y H Q => r x y H Q ∨ r' x y H Q) := by
  intro pins s σ H x y v u Q I rx ry q
  rcases q with q | q
  · exact h pins s σ H x y v u Q I rx ry q
  · exact h' pins s σ H x y v u Q I rx ry q
theorem sz5 {n : Nat} (h : n ≤ 100000) : n ≤ sizeLine := Nat.le_trans h (by decide)
theorem sz6 {n : Nat} (h : n ≤ 1000000) : n ≤ sizeLine := Nat.le_trans h (by decide)
theorem sz5' {n : Nat} (h : n < 100000) : n < sizeLine := Nat.lt_of_lt_of_le h (by decide)
section
variable {X : Cx} {CT : CTb} {U : WX} {a b c : Expr} {fa fb fc : FE W} {pos : Pos}
theorem RG.new {K : PySem.W.Frag} {s : Fs} {S : Store} {H : Hp} {p : P} {Q : VK} {EX : Value → Option Addr → Hp → Prop} {o : HO} (h : RG K CT (RepW K CT) s (.ok (.val p) S) Q EX) (g : Gd K CT s S H) {q : Addr} (hq : H q = none)
    (r : ∀ F', Ex s.F F' → F' q = some o → RepP K CT F' p (.ref q)) : Q (.ref q) (upd H q o) := by
  obtain ⟨g', x⟩ := g.newF hq o
  exact h _ _ _ x g' (r _ x.f upd_same)

theorem RepL.nil_iff {K : PySem.W.Frag} {CT : CTb} {F : Hp} {ps : List P} {vs : List V} (h : RepL K CT F ps vs) : vs = [] ↔ ps = [] := by
  have e := h.length
  constructor
  · intro q; subst q; exact List.length_eq_zero_iff.mp e.symm
  · intro q; subst q; exact h
theorem oz_add {K : PySem.W.Frag} : OpZ K CT (fun x y H Q => (rI0 (fun i j => .int (i + j)) x y H Q ∨ (∃ i j, x = .str i ∧ y = .str j ∧ i.length + j.length ≤ sizeLine ∧ Q (.str (i ++ j)) H)) ∨ (rCatA K x y H Q ∨ rCat x y H Q)) addW := by
  intro s S H a b x y Q EX gd ra rb h
  unfold addW at h
  split at h
  · rename_i i j ea eb
    have h1 := (pOf_ok gd ra ea).non_lst (fun _ e => nomatch e)
    have h2 := (pOf_ok gd rb eb).non_lst (fun _ e => nomatch e)
    exact .inl (.inl ⟨i, j, h1, h2, RG.here h gd rfl⟩)
  · rename_i i j ea eb
    have h1 := (pOf_ok gd ra ea).non_lst (fun _ e => nomatch e)
    have h2 := (pOf_ok gd rb eb).non_lst (fun _ e => nomatch e)
    split at h
    · rename_i c
      exact .inl (.inr ⟨i, j, h1, h2, sz6 c, RG.here h gd rfl⟩)
    · exact h.elim
  · rename_i ps qs ea eb
    obtain ⟨a1, vs, rfl, t1, l1⟩ := (pOf_ok gd ra ea).non_lst (fun _ e => nomatch e)
    obtain ⟨a2, us, rfl, t2, l2⟩ := (pOf_ok gd rb eb).non_lst (fun _ e => nomatch e)
    split at h
    · rename_i c
      refine .inr (.inl ⟨a1, a2, vs, us, rfl, rfl, gd.exF.st t1, gd.exF.st t2, by rw [l1.length, l2.length]; exact sz5 c, fun e => ?_, fun _ e => ?_, fun _ _ p hp => ?_⟩)
      · have q := l1.nil_iff.mp e
        subst q
        exact RG.here h gd (show RepP K CT s.F (.tup ([] ++ qs)) (.ref a2) from ⟨a2, us, rfl, t2, by simpa using l2⟩)
      · have q := l2.nil_iff.mp e
        subst q
        exact RG.here h gd (show RepP K CT s.F (.tup (ps ++ [])) (.ref a1) from ⟨a1, vs, rfl, t1, by simpa using l1⟩)
      · exact RG.new h gd hp fun F' e q => ⟨p, _, rfl, .inl (.inl q), (l1.mono e).append (l2.mono e)⟩
    · exact h.elim
  · rename_i ps qs ea eb
    obtain ⟨a1, vs, rfl, t1, l1⟩ := (pOf_ok gd ra ea).lst gd
    obtain ⟨a2, us, rfl, t2, l2⟩ := (pOf_ok gd rb eb).lst gd
    split at h
    · rename_i c
      exact .inr (.inr ⟨a1, a2, vs, us, rfl, rfl, t1, t2, by rw [l1.length, l2.length]; exact sz5 c, fun p hp => RG.new h gd hp fun F' e q => ⟨p, _, rfl, q, (l1.mono e).append (l2.mono e)⟩⟩)
    · exact h.elim
  · exact h.elim
theorem pz_add (ha : PZ X CT U a fa) (hb : PZ X CT U b fb) : PZ X CT U (.BinOp a .Add b pos) (eBin addW fa fb) := pz_bin ((op_add.or op_add_str).or (op_catA.or op_cat)) oz_add ha hb

/-! ### * -/
def mulOk (i j : Int) : Bool := decide (i.natAbs < 2 ^ 64) || decide (j.natAbs < 2 ^ 64)
def mulW : O2 := fun a b S => match pOf S a, pOf S b with
  | some (.int i), some (.int j) => if mulOk i j = true then .ok (.val (.int (i * j))) S else .bad
  | some (.lst ps), some (.int k) => if k < 100000 ∧ -100000 < k ∧ ps.length * k.toNat ≤ 100000 then .ok (.val (.lst (List.replicate k.toNat ps).flatten)) S else .bad
  | some (.tup ps), some (.int k) => if 2 ≤ k ∧ k ≤ 1000 ∧ 1 ≤ ps.length ∧ ps.length ≤ 1000 then .ok (.val (.tup (List.replicate k.toNat ps).flatten)) S else .bad
  | _, _ => .bad
theorem RepL.rep {K : PySem.W.Frag} {CT : CTb} {F : Hp} {ps : List P} {vs : List V} (h : RepL K CT F ps vs) : ∀ n : Nat, RepL K CT F (List.replicate n ps).flatten (List.replicate n vs).flatten
  | 0 => rfl
  | n + 1 => by
    rw [List.replicate_succ, List.replicate_succ, List.flatten_cons, List.flatten_cons]
    exact h.append (RepL.rep h n)
theorem oz_mul {K : PySem.W.Frag} : OpZ K CT (fun x y H Q => rI CMul (fun i j => .int (i * j)) x y H Q ∨ (rRep x y H Q ∨ rRepT K x y H Q)) mulW := by
  intro s S H a b x y Q EX gd ra rb h
  unfold mulW at h
  split at h
  · rename_i i j ea eb
    have h1 := (pOf_ok gd ra ea).non_lst (fun _ e => nomatch e)
    have h2 := (pOf_ok gd rb eb).non_lst (fun _ e => nomatch e)
    split at h
    · rename_i c
      simp only [mulOk, Bool.or_eq_true, decide_eq_true_eq] at c
      exact .inl ⟨i, j, h1, h2, by unfold CMul; omega, RG.here h gd rfl⟩
    · exact h.elim
  · rename_i ps k ea eb
    obtain ⟨a1, vs, rfl, t1, l1⟩ := (pOf_ok gd ra ea).lst gd
    have h2 := (pOf_ok gd rb eb).non_lst (fun _ e => nomatch e)
    split at h
    · rename_i c
      exact .inr (.inl ⟨a1, k, vs, rfl, h2, t1, by omega, by omega, by rw [l1.length]; exact sz5 c.2.2, fun p hp => RG.new h gd hp fun F' e q => ⟨p, _, rfl, q, RepL.rep (l1.mono e) _⟩⟩)
    · exact h.elim
  · rename_i ps k ea eb
    obtain ⟨a1, vs, rfl, t1, l1⟩ := (pOf_ok gd ra ea).non_lst (fun _ e => nomatch e)
    have h2 := (pOf_ok gd rb eb).non_lst (fun _ e => nomatch e)
    split at h
    · rename_i c
      exact .inr (.inr ⟨a1, k, vs, rfl, h2, gd.exF.st t1, fun z => by
        have := l1.nil_iff.mp z
        subst this
        simp at c, c.1, c.2.1, by rw [l1.length]; exact c.2.2.2, fun p hp => RG.new h gd hp fun F' e q => ⟨p, _, rfl, .inl (.inl q), RepL.rep (l1.mono e) _⟩⟩)
    · exact h.elim
  · exact h.elim
theorem pz_mul (ha : PZ X CT U a fa) (hb : PZ X CT U b fb) : PZ X CT U (.BinOp a .Mult b pos) (eBin mulW fa fb) := pz_bin (op_mul.or (op_rep.or op_repT)) oz_mul ha hb

/-! ### == != is in -/
mutual
def toPy : P → Option PyData
  | .non => some .none
  | .bl b => some (.bool b)
  | .int i => some (.int i)
  | .str x => some (.str x)
  | .tup ps => (toPyL ps).map .tuple
  | .lst ps => (toPyL ps).map .list
  | _ => none
def toPyL : List P → Option (List PyData)
  | [] => some []
  | p :: ps => (toPy p).bind fun d => (toPyL ps).map (d :: ·)
end
mutual
theorem dp_of {K : PySem.W.Frag} {F : Hp} : ∀ {p : P} {v : V} {d : PyData}, RepP K CT F p v → toPy p = some d → Dp K F v d
  | .non, _, _, h, e => by rw [show _ = _ from h]; cases e; exact .non
  | .bl b, _, _, h, e => by rw [show _ = _ from h]; cases e; exact .bl b
  | .int b, _, _, h, e => by rw [show _ = _ from h]; cases e; exact .int b
  | .str b, _, _, h, e => by rw [show _ = _ from h]; cases e; exact .str b
  | .tup ps, _, _, ⟨a, vs, h1, h2, h3⟩, e => by
    simp only [toPy, Option.map_eq_some_iff] at e
    obtain ⟨ds, e1, rfl⟩ := e
    rw [h1]; exact .tup h2 (dpL_of h3 e1)
  | .lst ps, _, _, ⟨a, vs, h1, h2, h3⟩, e => by
    simp only [toPy, Option.map_eq_some_iff] at e
    obtain ⟨ds, e1, rfl⟩ := e
    rw [h1]; exact .lst (SqL.of h2) (dpL_of h3 e1)
  | .dct _ _, _, _, h, e => by simp [toPy] at e
  | .dcu _ _, _, _, h, e => by simp [toPy] at e
  | .obj _ _ _, _, _, h, e => by simp [toPy] at e
  | .scr _, _, _, h, e => by simp [toPy] at e
theorem dpL_of {K : PySem.W.Frag} {F : Hp} : ∀ {ps : List P} {vs : List V} {ds : List PyData}, RepL K CT F ps vs → toPyL ps = some ds → DpAll K F vs ds
  | [], _, _, h, e => by rw [show _ = _ from h]; cases e; exact .nil
  | p :: ps, _, _, ⟨v, vs', h1, h2, h3⟩, e => by
    simp only [toPyL, Option.bind_eq_some_iff, Option.map_eq_some_iff] at e
    obtain ⟨d, e1, ds, e2, rfl⟩ := e
    rw [h1]; exact .cons (dp_of h2 e1) (dpL_of h3 e2)
end
theorem dp_now {K : PySem.W.Frag} {s : Fs} {S : Store} {H : Hp} {p : P} {v : V} {d : PyData} (g : Gd K CT s S H) (r : RepN K CT s H p v) (e : toPy p = some d) : Dp K H v d := by
  rcases r with r | ⟨ps, a, vs, rfl, rfl, h1, h2⟩
  · exact dp_of (r.mono g.exF) e
  · simp only [toPy, Option.map_eq_some_iff] at e
    obtain ⟨ds, e1, rfl⟩ := e
    exact .lst (SqL.of h1) (dpL_of (h2.mono g.exF) e1)
/-- == of data; none: no answer -/
def eqP (p q : P) : Option Bool := match p, q with
  | .int i, .int j => some (decide (i = j))
  | .str x, .str y => some (decide (x = y))
  | .bl b, .bl c => some (decide (b = c))
  | .int _, .str _ => some false
  | .str _, .int _ => some false
  | .non, .int _ => some false
  | .int _, .non => some false
  | .non, .str _ => some false
  | .str _, .non => some false
  | .bl _, .str _ => some false
  | .str _, .bl _ => some false
  | _, _ => match toPy p, toPy q with
    | some d, some e => if SeqAt.shaped d = true ∧ SeqAt.shaped e = true then some (PyData.eqv d e) else none
    | _, _ => none
def eqW (neg : Bool) : O2 := fun a b S => match pOf S a, pOf S b with
  | some p, some q => match eqP p q with
    | some k => .ok (.val (.bl (if neg = true then !k else k))) S
    | none => .bad
  | _, _ => .bad
theorem eqP_ok {K : PySem.W.Frag} {s : Fs} {S : Store} {H : Hp} {p q : P} {x y : V} {k : Bool} (g : Gd K CT s S H) (rp : RepN K CT s H p x) (rq : RepN K CT s H q y) (e : eqP p q = some k) :
    (scal x y = true ∧ k = decide (x = y)) ∨ ∃ d e, Dp K H x d ∧ Dp K H y e ∧ SeqAt.shaped d = true ∧ SeqAt.shaped e = true ∧ k = PyData.eqv d e := by
  have deep : (match toPy p, toPy q with
    | some d, some e => if SeqAt.shaped d = true ∧ SeqAt.shaped e = true then some (PyData.eqv d e) else none
    | _, _ => none) = some k → ∃ d e, Dp K H x d ∧ Dp K H y e ∧ SeqAt.shaped d = true ∧ SeqAt.shaped e = true ∧ k = PyData.eqv d e := by
    intro h
    cases ed : toPy p with
    | none => rw [ed] at h; cases h
    | some d =>
      cases ee : toPy q with
      | none => rw [ed, ee] at h; cases h
      | some d' =>
        rw [ed, ee] at h
        simp only at h
        split at h
        · rename_i c
          cases h
          exact ⟨d, d', dp_now g rp ed, dp_now g rq ee, c.1, c.2, rfl⟩
        · cases h
  have fl : ∀ {p : P} {x : V}, RepN K CT s H p x → (∀ ps, p ≠ .lst ps) → RepP K CT s.F p x := fun r h => r.non_lst h
  unfold eqP at e
  split at e
  all_goals first
    | exact .inr (deep e)
    | (have h1 := fl rp (fun _ z => nomatch z)
       have h2 := fl rq (fun _ z => nomatch z)
       have h1' := show _ = _ from h1
       have h2' := show _ = _ from h2
       subst h1' h2'
       cases e
       refine .inl ⟨rfl, ?_⟩
       simp)
theorem pz_eqR {neg : Bool} {op : CmpOp} (hz : OpR X (compareOp op) (fun x y H Q => (scal x y = true ∧ Q (.bl (if neg = true then !decide (x = y) else decide (x = y))) H) ∨ (∃ d e, Dp X.K H x d ∧ Dp X.K H y e ∧ SeqAt.shaped d = true ∧ SeqAt.shaped e = true ∧ Q (.bl (if neg = true then !PyData.eqv d e else PyData.eqv d e)) H))) : ∃ r, OpR X (compareOp op) r ∧ OpZ X.K CT r (eqW neg) := by
  refine ⟨_, hz, fun s S H a b x y Q EX gd ra rb h => ?_⟩
  unfold eqW at h
  split at h
  · rename_i p q ea eb
    split at h
    · rename_i k ek
      rcases eqP_ok gd (pOf_ok gd ra ea) (pOf_ok gd rb eb) ek with ⟨h1, rfl⟩ | ⟨d, e, h1, h2, h3, h4, rfl⟩
      · exact .inl ⟨h1, RG.here h gd rfl⟩
      · exact .inr ⟨d, e, h1, h2, h3, h4, RG.here h gd rfl⟩
    · exact h.elim
  · exact h.elim
theorem or_eq (hu : X.A.units + 64 < cLine) : ∃ r, OpR X (compareOp .Eq) r ∧ OpZ X.K CT r (eqW false) := pz_eqR (neg := false) (OpR.or op_eq (op_eqD hu))
theorem or_ne (hu : X.A.units + 64 < cLine) : ∃ r, OpR X (compareOp .NotEq) r ∧ OpZ X.K CT r (eqW true) := pz_eqR (neg := true) (OpR.or op_ne (op_neD hu))
theorem pz_eq (hu : X.A.units + 64 < cLine) (ha : PZ X CT U a fa) (hb : PZ X CT U b fb) (hm : behindInMarks .Eq b = false := by first | exact nomark _ | rfl) : PZ X CT U (.Compare a [.Eq] [b] pos) (eBin (eqW false) fa fb) := by
  obtain ⟨r, h1, h2⟩ := or_eq (CT := CT) hu
  exact pz_cmp h1 h2 ha hb hm
theorem zt_eq (hu : X.A.units + 64 < cLine) (ha : PZ X CT U a fa) (hb : PZ X CT U b fb) (hm : behindInMarks .Eq b = false := by first | exact nomark _ | rfl) : PZT X CT U (.Compare a [.Eq] [b] pos) (tstB (eBin (eqW false) fa fb)) := by
  obtain ⟨r, h1, h2⟩ := or_eq (CT := CT) hu
  exact zt_cmp h1 h2 ha hb hm
theorem pz_ne (hu : X.A.units + 64 < cLine) (ha : PZ X CT U a fa) (hb : PZ X CT U b fb) (hm : behindInMarks .NotEq b = false := by first | exact nomark _ | rfl) : PZ X CT U (.Compare a [.NotEq] [b] pos) (eBin (eqW true) fa fb) := by
  obtain ⟨r, h1, h2⟩ := or_ne (CT := CT) hu
  exact pz_cmp h1 h2 ha hb hm
theorem zt_ne (hu : X.A.units + 64 < cLine) (ha : PZ X CT U a fa) (hb : PZ X CT U b fb) (hm : behindInMarks .NotEq b = false := by first | exact nomark _ | rfl) : PZT X CT U (.Compare a [.NotEq] [b] pos) (tstB (eBin (eqW true) fa fb)) := by
  obtain ⟨r, h1, h2⟩ := or_ne (CT := CT) hu
  exact zt_cmp h1 h2 ha hb hm
def isNoneW : W → Bool
  | .val .non => true
  | _ => false
def isBlW (k : Bool) : W → Bool
  | .val (.bl j) => j == k
  | _ => false
def isW (neg : Bool) : O2 := fun a b S => match b with
  | .val .non => .ok (.val (.bl (if neg = true then !isNoneW a else isNoneW a))) S
  | .val (.bl k) => .ok (.val (.bl (if neg = true then !isBlW k a else isBlW k a))) S
  | _ => .bad
theorem isBl_ok {K : PySem.W.Frag} {s : Fs} {k : Bool} {w : W} {v : V} (r : RepW K CT s w v) : decide (v = V.bl k) = isBlW k w := by
  cases w with
  | loc n => obtain ⟨a, _, rfl⟩ := r; simp [isBlW]
  | exc => obtain ⟨a, _, _, _, _, rfl, _⟩ := r; simp [isBlW]
  | val p =>
    cases p with
    | non => rw [show v = _ from r]; simp [isBlW]
    | bl b => rw [show v = _ from r]; cases b <;> cases k <;> simp [isBlW]
    | int b => rw [show v = _ from r]; simp [isBlW]
    | str b => rw [show v = _ from r]; simp [isBlW]
    | tup ps => obtain ⟨a, vs, rfl, _⟩ := r; simp [isBlW]
    | lst ps => obtain ⟨a, vs, rfl, _⟩ := r; simp [isBlW]
    | dct _ _ => obtain ⟨a, vs, rfl, _⟩ := r; simp [isBlW]
    | dcu _ _ => obtain ⟨a, vs, rfl, _⟩ := r; simp [isBlW]
    | obj _ _ _ => obtain ⟨a, dx, vs, rfl, _⟩ := r; simp [isBlW]
    | scr _ => obtain ⟨a, rfl, _⟩ := r; simp [isBlW]
theorem isNone_ok {K : PySem.W.Frag} {s : Fs} {w : W} {v : V} (r : RepW K CT s w v) : decide (v = V.non) = isNoneW w := by
  cases w with
  | loc n => obtain ⟨a, _, rfl⟩ := r; simp [isNoneW]
  | exc => obtain ⟨a, _, _, _, _, rfl, _⟩ := r; simp [isNoneW]
  | val p =>
    cases p with
    | non => rw [show v = _ from r]; simp [isNoneW]
    | bl b => rw [show v = _ from r]; simp [isNoneW]
    | int b => rw [show v = _ from r]; simp [isNoneW]
    | str b => rw [show v = _ from r]; simp [isNoneW]
    | tup ps => obtain ⟨a, vs, rfl, _⟩ := r; simp [isNoneW]
    | lst ps => obtain ⟨a, vs, rfl, _⟩ := r; simp [isNoneW]
    | dct _ _ => obtain ⟨a, vs, rfl, _⟩ := r; simp [isNoneW]
    | dcu _ _ => obtain ⟨a, vs, rfl, _⟩ := r; simp [isNoneW]
    | obj _ _ _ => obtain ⟨a, dx, vs, rfl, _⟩ := r; simp [isNoneW]
    | scr _ => obtain ⟨a, rfl, _⟩ := r; simp [isNoneW]
def rIsZ : R2 := fun x y H Q => (y = .non ∨ ∃ k, y = .bl k) ∧ Q (.bl (decide (x = y))) H
def rIsNotZ : R2 := fun x y H Q => (y = .non ∨ ∃ k, y = .bl k) ∧ Q (.bl (!decide (x = y))) H
theorem oz_is {K : PySem.W.Frag} : OpZ K CT rIsZ (isW false) := fun s S H a b x y Q EX gd ra rb h => by
  unfold isW at h
  split at h
  · refine ⟨.inl rb, ?_⟩
    rw [show y = _ from rb, isNone_ok ra]
    exact RG.here h gd rfl
  · refine ⟨.inr ⟨_, rb⟩, ?_⟩
    rw [show y = _ from rb, isBl_ok ra]
    exact RG.here h gd rfl
  · exact h.elim
theorem oz_isnot {K : PySem.W.Frag} : OpZ K CT rIsNotZ (isW true) := fun s S H a b x y Q EX gd ra rb h => by
  unfold isW at h
  split at h
  · refine ⟨.inl rb, ?_⟩
    rw [show y = _ from rb, isNone_ok ra]
    exact RG.here h gd rfl
  · refine ⟨.inr ⟨_, rb⟩, ?_⟩
    rw [show y = _ from rb, isBl_ok ra]
    exact RG.here h gd rfl
  · exact h.elim
theorem is_bool_gen {M : Model} {A : Around} {E : Value → Shared → Prop} {s : Shared} {Q : Value → Shared → Prop} {v : Value} {k : Bool} (hv : ∀ i, v ≠ .builtin i) (h : Q (.bool (v == .bool k)) s) : wpAny M A (compareOp .Is v (.bool k)) Q E s := by
  cases v <;> first | exact absurd rfl (hv _) | exact wpAny_pure h
theorem isnot_bool_gen {M : Model} {A : Around} {E : Value → Shared → Prop} {s : Shared} {Q : Value → Shared → Prop} {v : Value} {k : Bool} (hv : ∀ i, v ≠ .builtin i) (h : Q (.bool (!(v == .bool k))) s) : wpAny M A (compareOp .IsNot v (.bool k)) Q E s := by
  cases v <;> first | exact absurd rfl (hv _) | exact wpAny_pure h
section
variable {X : Cx}
theorem op_isZ : OpR X (compareOp .Is) rIsZ := by
  intro pins s σ H x y v u Q I rx ry h
  obtain ⟨rfl | ⟨k, rfl⟩, q⟩ := h
  · exact op_isN pins s σ H x .non v u Q I rx ry ⟨rfl, q⟩
  · cases ry
    refine is_bool_gen (fun i e => by subst e; cases x <;> first | (cases rx; done) | (obtain ⟨t, h⟩ := rx; cases h; done)) (fin_bl I q ?_)
    cases x <;> first
      | (cases rx; rfl)
      | (obtain ⟨t, rfl⟩ := rx; rfl)
      | (cases rx; rename_i b; cases b <;> cases k <;> rfl)
theorem op_isnotZ : OpR X (compareOp .IsNot) rIsNotZ := by
  intro pins s σ H x y v u Q I rx ry h
  obtain ⟨rfl | ⟨k, rfl⟩, q⟩ := h
  · exact op_notN pins s σ H x .non v u Q I rx ry ⟨rfl, q⟩
  · cases ry
    refine isnot_bool_gen (fun i e => by subst e; cases x <;> first | (cases rx; done) | (obtain ⟨t, h⟩ := rx; cases h; done)) (fin_bl I q ?_)
    cases x <;> first
      | (cases rx; rfl)
      | (obtain ⟨t, rfl⟩ := rx; rfl)
      | (cases rx; rename_i b; cases b <;> cases k <;> rfl)
end

/-! ### in -/
def flatP : P → Bool
  | .non => true | .bl _ => true | .int _ => true | .str _ => true
  | _ => false
def eqF : P → P → Bool
  | .non, .non => true
  | .bl a, .bl b => a == b
  | .bl a, .int b => (if a then 1 else 0) == b
  | .int a, .bl b => a == (if b then 1 else 0)
  | .int a, .int b => a == b
  | .str a, .str b => a == b
  | _, _ => false
theorem eqF_ok {K : PySem.W.Frag} {F : Hp} {p q : P} {x y : V} (h1 : flatP p = true) (h2 : flatP q = true) (r1 : RepP K CT F p x) (r2 : RepP K CT F q y) : eqV x y = eqF p q := by
  cases p <;> first | (simp [flatP] at h1; done) | (cases q <;> first | (simp [flatP] at h2; done) | (rw [show x = _ from r1, show y = _ from r2]; rfl))
theorem flat_ok {K : PySem.W.Frag} {F : Hp} {p : P} {x : V} (h1 : flatP p = true) (r1 : RepP K CT F p x) : flatV x = true := by
  cases p <;> first | (simp [flatP] at h1; done) | (rw [show x = _ from r1]; rfl)
theorem flats_ok {K : PySem.W.Frag} {F : Hp} : ∀ {ps : List P} {vs : List V}, ps.all flatP = true → RepL K CT F ps vs → vs.all flatV = true
  | [], _, _, h => by rw [show _ = _ from h]; rfl
  | p :: ps, _, e, ⟨v, vs', h1, h2, h3⟩ => by
    simp only [List.all_cons, Bool.and_eq_true] at e
    subst h1
    simp only [List.all_cons, Bool.and_eq_true]
    exact ⟨flat_ok e.1 h2, flats_ok e.2 h3⟩
theorem inF_ok {K : PySem.W.Frag} {F : Hp} {p : P} {x : V} (hp : flatP p = true) (rp : RepP K CT F p x) : ∀ {ps : List P} {vs : List V}, ps.all flatP = true → RepL K CT F ps vs → inV x vs = ps.any (fun q => eqF q p)
  | [], _, _, h => by rw [show _ = _ from h]; rfl
  | q :: ps, _, e, ⟨v, vs', h1, h2, h3⟩ => by
    simp only [List.all_cons, Bool.and_eq_true] at e
    subst h1
    have ih := inF_ok hp rp e.2 h3
    unfold inV at ih ⊢
    rw [List.any_cons, List.any_cons, ih, eqF_ok e.1 hp h2 rp]
/-- in a list, a tuple, a text -/
def inP (p q : P) : Option Bool := match q with
  | .lst ps => if flatP p && ps.all flatP then some (ps.any fun q => eqF q p) else none
  | .tup ps => if flatP p && ps.all flatP then some (ps.any fun q => eqF q p) else none
  | .str z => match p with
    | .str x => some (!(Builtin.Str.occurrences z x 0 z.length 1).isEmpty)
    | _ => none
  | _ => none
def inW (neg : Bool) : O2 := fun a b S => match pOf S a, pOf S b with
  | some p, some q => match inP p q with
    | some k => .ok (.val (.bl (if neg = true then !k else k))) S
    | none => .bad
  | _, _ => .bad
theorem oz_in {K : PySem.W.Frag} {neg : Bool} : OpZ K CT (fun x y H Q => rIn K neg x y H Q ∨ ∃ i j, x = .str i ∧ y = .str j ∧ Q (.bl (if neg = true then !(!(Builtin.Str.occurrences j i 0 j.length 1).isEmpty) else !(Builtin.Str.occurrences j i 0 j.length 1).isEmpty)) H) (inW neg) := fun s S H a b x y Q EX gd ra rb h => by
  unfold inW at h
  split at h
  · rename_i p q ea eb
    have rp := pOf_ok gd ra ea
    have rq := pOf_ok gd rb eb
    split at h
    · rename_i k ek
      unfold inP at ek
      split at ek
      · rename_i ps
        split at ek
        · rename_i c
          cases ek
          simp only [Bool.and_eq_true] at c
          have rp' := rp.non_lst (fun _ z => by subst z; simp [flatP] at c)
          obtain ⟨a, vs, rfl, h1, h2⟩ := rq.lst gd
          refine .inl ⟨a, vs, rfl, .inl (SqL.of h1), flat_ok c.1 rp', flats_ok c.2 h2, ?_⟩
          rw [inF_ok c.1 rp' c.2 h2]
          exact RG.here h gd (by cases neg <;> rfl)
        · cases ek
      · rename_i ps
        split at ek
        · rename_i c
          cases ek
          simp only [Bool.and_eq_true] at c
          have rp' := rp.non_lst (fun _ z => by subst z; simp [flatP] at c)
          obtain ⟨a, vs, rfl, h1, h2⟩ := rq.non_lst (fun _ z => nomatch z)
          refine .inl ⟨a, vs, rfl, .inr (gd.exF.st h1), flat_ok c.1 rp', flats_ok c.2 h2, ?_⟩
          rw [inF_ok c.1 rp' c.2 h2]
          exact RG.here h gd (by cases neg <;> rfl)
        · cases ek
      · rename_i z
        split at ek
        · rename_i z'
          cases ek
          have h1 := rp.non_lst (fun _ z => nomatch z)
          have h2 := rq.non_lst (fun _ z => nomatch z)
          exact .inr ⟨_, _, h1, h2, RG.here h gd (by cases neg <;> rfl)⟩
        · cases ek
      · cases ek
    · exact h.elim
  · exact h.elim
theorem or_in : OpR X (compareOp .In) (fun x y H Q => rIn X.K false x y H Q ∨ ∃ i j, x = .str i ∧ y = .str j ∧ Q (.bl (if false = true then !(!(Builtin.Str.occurrences j i 0 j.length 1).isEmpty) else !(Builtin.Str.occurrences j i 0 j.length 1).isEmpty)) H) := OpR.or op_in_seq op_in_str
theorem or_notin : OpR X (compareOp .NotIn) (fun x y H Q => rIn X.K true x y H Q ∨ ∃ i j, x = .str i ∧ y = .str j ∧ Q (.bl (if true = true then !(!(Builtin.Str.occurrences j i 0 j.length 1).isEmpty) else !(Builtin.Str.occurrences j i 0 j.length 1).isEmpty)) H) := OpR.or op_notIn_seq op_notIn_str
end
end Z
end
-- part Z3
section
set_option Elab.async false
set_option linter.all false
set_option maxRecDepth 100000
set_option autoImplicit false
namespace Z
open PySem PySem.Spec PyProof.Rows L2

/-! ### freezing -/
section
variable {K : PySem.W.Frag} {CT : CTb} {s : Fs} {S : Store} {H : Hp}
theorem Gd.freeze (g : Gd K CT s S H) {n : Nat} {a : Addr} {c : Cell} {o : HO} {p : P} (h1 : S[n]? = some c) (hl : live c) (h2 : s.m[n]? = some a) (hF : s.F a = none) (hG : s.G a = none) (hH : H a = some o)
    (r : ∀ F', Ex s.F F' → F' a = some o → RepP K CT F' p (.ref a)) : Gd K CT { s with F := upd s.F a o } (S.set n (.frz p)) H ∧ Ext s { s with F := upd s.F a o } := by
  have x : Ext s { s with F := upd s.F a o } := ⟨rfl, Ex.new hF, fun _ _ h => h, fun b h1 h2 => by
    have : b ≠ a := fun e => h2 (by rw [e]; exact hG)
    show upd s.F a o b = none
    rw [upd_ne this]; exact h1⟩
  have nlt := (List.getElem?_eq_some_iff.mp h1).1
  have oth : ∀ (n' : Nat) (c' : Cell) (a' : Addr), S[n']? = some c' → s.m[n']? = some a' → live c' → n ≠ n' → a' ≠ a := fun n' c' a' q1 q2 l ne e => by
    subst e; exact ne (g.inj n n' c c' a' h1 q1 hl l h2 q2)
  have hna : ∀ P ∈ CT.tabs, P ≠ a := fun P hP z => by
    have q := g.cells n c a h1 h2
    obtain ⟨ps, hp, _⟩ := g.tab P hP
    rw [z] at hp
    cases c with
    | lst ws => obtain ⟨_, _, vs, q3, _⟩ := q; rw [q3] at hp; cases hp
    | dct ks ws => obtain ⟨_, _, vs, q3, _, _⟩ := q; rw [q3] at hp; cases hp
    | dcu ks ws => obtain ⟨_, _, vs, q3, _, _⟩ := q; rw [q3] at hp; cases hp
    | ins c ns ws => obtain ⟨_, _, dx, vs, q3, _, _⟩ := q; rw [q3] at hp; cases hp
    | frz p => exact hl.elim
  refine ⟨⟨fun b u e => ?_, g.exG, by rw [List.length_set]; exact g.len, fun n' d b q1 q2 => ?_, fun n1 n2 d1 d2 b q1 q2 l1 l2 e1 e2 => ?_, g.tab, fun P hP => by show upd s.F a o P = none; rw [upd_ne (hna P hP)]; exact g.notF P hP, g.notG⟩, x⟩
  · by_cases q : b = a
    · subst q
      have e' : upd s.F b o b = some u := e
      rw [upd_same] at e'; cases e'; exact hH
    · have e' : upd s.F a o b = some u := e
      rw [upd_ne q] at e'; exact g.exF b u e'
  · rw [List.getElem?_set] at q1
    by_cases e : n = n'
    · subst e
      rw [if_pos rfl, if_pos nlt] at q1
      cases q1
      have q2' : s.m[n]? = some b := q2
      rw [h2] at q2'; cases q2'
      exact r _ x.f upd_same
    · rw [if_neg e] at q1
      have q := g.cells n' d b q1 q2
      have ne : live d → b ≠ a := fun l => oth n' d b q1 q2 l e
      cases d with
      | lst ws => obtain ⟨r1, r2, vs, r3, r4⟩ := q; exact ⟨by show upd s.F a o b = none; rw [upd_ne (ne trivial)]; exact r1, r2, vs, r3, r4.mono x⟩
      | dct ks ws => obtain ⟨r1, r2, vs, r3, ql, r4⟩ := q; exact ⟨by show upd s.F a o b = none; rw [upd_ne (ne trivial)]; exact r1, r2, vs, r3, ql, r4.mono x⟩
      | dcu ks ws => obtain ⟨r1, r2, vs, r3, ql, r4⟩ := q; exact ⟨by show upd s.F a o b = none; rw [upd_ne (ne trivial)]; exact r1, r2, vs, r3, ql, r4.mono x⟩
      | ins c ns ws => obtain ⟨r1, r2, dx, vs, r3, ql, r4⟩ := q; exact ⟨by show upd s.F a o b = none; rw [upd_ne (ne trivial)]; exact r1, r2, dx, vs, r3, ql, r4.mono x⟩
      | frz p => exact RepP.mono x.f q
  · have back : ∀ (k : Nat) (d : Cell), (S.set n (Cell.frz p))[k]? = some d → live d → S[k]? = some d := fun k d q l => by
      rw [List.getElem?_set] at q
      by_cases e : n = k
      · subst e
        rw [if_pos rfl, if_pos nlt] at q
        cases q; exact l.elim
      · rw [if_neg e] at q; exact q
    exact g.inj n1 n2 d1 d2 b (back _ _ q1 l1) (back _ _ q2 l2) l1 l2 e1 e2
end
def frz1 (S : Store) : W → Option (P × Store)
  | .val p => some (p, S)
  | .loc n => match S[n]? with
    | some (.lst ws) => (valAll ws).map fun ps => (.lst ps, S.set n (.frz (.lst ps)))
    | some (.dct ks ws) => (valAll ws).map fun ps => (.dct ks ps, S.set n (.frz (.dct ks ps)))
    | some (.dcu ks ws) => (valAll ws).map fun ps => (.dcu ks ps, S.set n (.frz (.dcu ks ps)))
    | some (.frz p) => some (p, S)
    | _ => none
  | .exc => none
def frzs1 (S : Store) : List W → Option (List P × Store)
  | [] => some ([], S)
  | w :: ws => (frz1 S w).bind fun r => (frzs1 r.2 ws).map fun q => (r.1 :: q.1, q.2)
/-- deep: an instance with its lists -/
def frz (S : Store) : W → Option (P × Store)
  | .loc n => match S[n]? with
    | some (.ins c ns ws) => (frzs1 S ws).bind fun r => match r.2[n]? with
      | some (.ins _ _ _) => some (.obj c ns r.1, r.2.set n (.frz (.obj c ns r.1)))
      | _ => none
    | _ => frz1 S (.loc n)
  | w => frz1 S w
def frzs (S : Store) : List W → Option (List P × Store)
  | [] => some ([], S)
  | w :: ws => (frz S w).bind fun r => (frzs r.2 ws).map fun q => (r.1 :: q.1, q.2)
section
variable {K : PySem.W.Frag} {CT : CTb} {s : Fs} {S S' : Store} {H : Hp}
theorem frz1_ok (g : Gd K CT s S H) {w : W} {v : V} {p : P} (r : RepW K CT s w v) (e : frz1 S w = some (p, S')) : ∃ s', Ext s s' ∧ Gd K CT s' S' H ∧ RepP K CT s'.F p v := by
  cases w with
  | val q => cases e; exact ⟨s, Ext.refl s, g, r⟩
  | loc n =>
    obtain ⟨a, h1, rfl⟩ := r
    unfold frz1 at e
    cases hc : S[n]? with
    | none => simp [hc] at e
    | some c =>
      have q := g.cells n c a hc h1
      cases c with
      | lst ws =>
        simp only [hc, Option.map_eq_some_iff] at e
        obtain ⟨ps, e1, e2⟩ := e
        cases e2
        obtain ⟨q1, q2, vs, q3, q4⟩ := q
        have rr : ∀ F', Ex s.F F' → F' a = some (.lst vs) → RepP K CT F' (.lst ps) (.ref a) := fun F' e f => ⟨a, vs, rfl, f, (valAll_ok e1 q4).mono e⟩
        obtain ⟨g', x⟩ := g.freeze hc trivial h1 q1 q2 q3 rr
        exact ⟨_, x, g', rr _ x.f upd_same⟩
      | dct ks ws =>
        simp only [hc, Option.map_eq_some_iff] at e
        obtain ⟨ps, e1, e2⟩ := e
        cases e2
        obtain ⟨q1, q2, vs, q3, ql, q4⟩ := q
        have rr : ∀ F', Ex s.F F' → F' a = some (.dK (ks.zip vs)) → RepP K CT F' (.dct ks ps) (.ref a) := fun F' e f => ⟨a, vs, rfl, f, by rw [ql]; have := (valAll_ok e1 q4).length; have := q4.length; omega, (valAll_ok e1 q4).mono e⟩
        obtain ⟨g', x⟩ := g.freeze hc trivial h1 q1 q2 q3 rr
        exact ⟨_, x, g', rr _ x.f upd_same⟩
      | dcu ks ws =>
        simp only [hc, Option.map_eq_some_iff] at e
        obtain ⟨ps, e1, e2⟩ := e
        cases e2
        obtain ⟨q1, q2, vs, q3, ql, q4⟩ := q
        have rr : ∀ F', Ex s.F F' → F' a = some (.dT (ks.zip vs)) → RepP K CT F' (.dcu ks ps) (.ref a) := fun F' e f => ⟨a, vs, rfl, f, by rw [ql]; have := (valAll_ok e1 q4).length; have := q4.length; omega, (valAll_ok e1 q4).mono e⟩
        obtain ⟨g', x⟩ := g.freeze hc trivial h1 q1 q2 q3 rr
        exact ⟨_, x, g', rr _ x.f upd_same⟩
      | ins c ns ws => simp [hc] at e
      | frz p' => simp only [hc] at e; cases e; exact ⟨s, Ext.refl s, g, q⟩
  | exc => cases e
theorem frzs1_ok {ws : List W} : ∀ {vs : List V} {ps : List P} {s : Fs} {S : Store}, Gd K CT s S H → RepWs K CT s ws vs → frzs1 S ws = some (ps, S') → ∃ s', Ext s s' ∧ Gd K CT s' S' H ∧ RepL K CT s'.F ps vs := by
  induction ws with
  | nil => intro vs ps s S g r e; cases e; exact ⟨s, Ext.refl s, g, r⟩
  | cons w ws ih =>
    intro vs ps s S g r e
    obtain ⟨v, vs', h1, h2, h3⟩ := r
    simp only [frzs1, Option.bind_eq_some_iff, Option.map_eq_some_iff] at e
    obtain ⟨⟨p, S1⟩, e1, ⟨ps, S2⟩, e2, e3⟩ := e
    cases e3
    obtain ⟨s1, x1, g1, r1⟩ := frz1_ok g h2 e1
    obtain ⟨s2, x2, g2, r2⟩ := ih g1 (h3.mono x1) e2
    exact ⟨s2, x1.trans x2, g2, ⟨v, vs', h1, r1.mono x2.f, r2⟩⟩
theorem frz_ok (g : Gd K CT s S H) {w : W} {v : V} {p : P} (r : RepW K CT s w v) (e : frz S w = some (p, S')) : ∃ s', Ext s s' ∧ Gd K CT s' S' H ∧ RepP K CT s'.F p v := by
  cases w with
  | val q => exact frz1_ok g r e
  | loc n =>
    unfold frz at e
    cases hc : S[n]? with
    | none => simp only [hc] at e; exact frz1_ok g r e
    | some c0 =>
      cases c0 with
      | lst ws => simp only [hc] at e; exact frz1_ok g r e
      | dct ks ws => simp only [hc] at e; exact frz1_ok g r e
      | dcu ks ws => simp only [hc] at e; exact frz1_ok g r e
      | frz p' => simp only [hc] at e; exact frz1_ok g r e
      | ins c ns ws =>
        simp only [hc] at e
        obtain ⟨a, h1, rfl⟩ := r
        obtain ⟨q1, q2, dx, vs, q3, ql, q4⟩ := g.cells n _ a hc h1
        simp only [Option.bind_eq_some_iff] at e
        obtain ⟨⟨ps, S1⟩, e1, e2⟩ := e
        obtain ⟨s1, x1, g1, r1⟩ := frzs1_ok g q4 e1
        cases hc2 : S1[n]? with
        | none => simp [hc2] at e2
        | some c2 =>
          cases c2 with
          | lst ws => simp [hc2] at e2
          | dct _ ws => simp [hc2] at e2
          | dcu _ ws => simp [hc2] at e2
          | frz ws => simp [hc2] at e2
          | ins c2 ns2 ws2 =>
            simp only [hc2] at e2
            cases e2
            have h1' := x1.m n a h1
            obtain ⟨p1, p2, _, _, _, _⟩ := g1.cells n _ a hc2 h1'
            have l1 := r1.length
            have l2 := q4.length
            have rr : ∀ F', Ex s1.F F' → F' a = some (.ins (CT c) dx (ns.zip vs)) → RepP K CT F' (.obj c ns ps) (.ref a) := fun F' e f => ⟨a, dx, vs, rfl, f, by omega, r1.mono e⟩
            obtain ⟨g', x⟩ := g1.freeze hc2 trivial h1' p1 p2 q3 rr
            exact ⟨_, x1.trans x, g', rr _ x.f upd_same⟩
  | exc => exact frz1_ok g r e
theorem frzs_ok {ws : List W} : ∀ {vs : List V} {ps : List P} {s : Fs} {S : Store}, Gd K CT s S H → RepWs K CT s ws vs → frzs S ws = some (ps, S') → ∃ s', Ext s s' ∧ Gd K CT s' S' H ∧ RepL K CT s'.F ps vs := by
  induction ws with
  | nil => intro vs ps s S g r e; cases e; exact ⟨s, Ext.refl s, g, r⟩
  | cons w ws ih =>
    intro vs ps s S g r e
    obtain ⟨v, vs', h1, h2, h3⟩ := r
    simp only [frzs, Option.bind_eq_some_iff, Option.map_eq_some_iff] at e
    obtain ⟨⟨p, S1⟩, e1, ⟨ps, S2⟩, e2, e3⟩ := e
    cases e3
    obtain ⟨s1, x1, g1, r1⟩ := frz_ok g h2 e1
    obtain ⟨s2, x2, g2, r2⟩ := ih g1 (h3.mono x1) e2
    exact ⟨s2, x1.trans x2, g2, ⟨v, vs', h1, r1.mono x2.f, r2⟩⟩
end
def doFrz (w : W) (S : Store) : RE P := match frz S w with
  | some (p, S') => .ok p S'
  | none => .bad
def doFrzs (ws : List W) (S : Store) : RE (List P) := match frzs S ws with
  | some (p, S') => .ok p S'
  | none => .bad
section
variable {K : PySem.W.Frag} {CT : CTb} {s : Fs} {S : Store} {H : Hp} {β δ : Type} {Rb : Fs → β → δ → Prop} {Q : δ → Hp → Prop} {EX : Value → Option Addr → Hp → Prop}
theorem RG.frz {w : W} {v : V} {k : P → Store → RE β} (g : Gd K CT s S H) (r : RepW K CT s w v) (h : RG K CT Rb s ((doFrz w S).bind k) Q EX) : ∃ p S' s', Ext s s' ∧ Gd K CT s' S' H ∧ RepP K CT s'.F p v ∧ RG K CT Rb s' (k p S') Q EX := by
  unfold doFrz at h
  cases e : Z.frz S w with
  | none => rw [e] at h; exact h.elim
  | some q =>
    rw [e] at h
    obtain ⟨s', x, g', r'⟩ := frz_ok (S' := q.2) (p := q.1) g r e
    exact ⟨q.1, q.2, s', x, g', r', RG.ext x h⟩
theorem RG.frzs {ws : List W} {vs : List V} {k : List P → Store → RE β} (g : Gd K CT s S H) (r : RepWs K CT s ws vs) (h : RG K CT Rb s ((doFrzs ws S).bind k) Q EX) : ∃ ps S' s', Ext s s' ∧ Gd K CT s' S' H ∧ RepL K CT s'.F ps vs ∧ RG K CT Rb s' (k ps S') Q EX := by
  unfold doFrzs at h
  cases e : Z.frzs S ws with
  | none => rw [e] at h; exact h.elim
  | some q =>
    rw [e] at h
    obtain ⟨s', x, g', r'⟩ := frzs_ok (S' := q.2) (ps := q.1) g r e
    exact ⟨q.1, q.2, s', x, g', r', RG.ext x h⟩
end

/-! ### displays -/
def eTup (fa : FE (List W)) : FE W := fun ρ S => (fa ρ S).bind fun ws S1 => (doFrzs ws S1).bind fun ps S2 => if ps.length ≤ 100000 then .ok (.val (.tup ps)) S2 else .bad
def eLstP (fa : FE (List W)) : FE W := fun ρ S => (fa ρ S).bind fun ws S1 => (doFrzs ws S1).bind fun ps S2 => if ps.length ≤ 100000 then .ok (.val (.lst ps)) S2 else .bad
/-- a list that will be changed: a new cell -/
def eLst (fa : FE (List W)) : FE W := fun ρ S => (fa ρ S).bind fun ws S1 => if ws.length ≤ 100000 then .ok (.loc S1.length) (S1 ++ [.lst ws]) else .bad
section
variable {X : Cx} {CT : CTb} {U : WX} {es : List Expr} {fa : FE (List W)} {pos : Pos}
theorem pz_tup {x1 : Nat} (ha : PZA X CT U es fa) : PZ X CT U (.Tuple es x1 pos) (eTup fa) := weakE (pe_tup ha) fun σ H Q ⟨s, S, ρ, gd, en, h⟩ =>
  ⟨s, S, ρ, gd, en, RG.step h fun ws S1 s1 H1 vs x1 g1 r1 h1 => by
    obtain ⟨ps, S2, s2, x2, g2, r2, h2⟩ := RG.frzs g1 r1 h1
    split at h2
    · rename_i c
      exact ⟨by rw [r2.length]; exact sz5 c, fun p hp => RG.new h2 g2 hp fun F' e q => ⟨p, _, rfl, .inl (.inl q), r2.mono e⟩⟩
    · exact h2.elim⟩
theorem pz_lstP (ha : PZA X CT U es fa) : PZ X CT U (.List es pos) (eLstP fa) := weakE (pe_lst ha) fun σ H Q ⟨s, S, ρ, gd, en, h⟩ =>
  ⟨s, S, ρ, gd, en, RG.step h fun ws S1 s1 H1 vs x1 g1 r1 h1 => by
    obtain ⟨ps, S2, s2, x2, g2, r2, h2⟩ := RG.frzs g1 r1 h1
    split at h2
    · rename_i c
      exact ⟨by rw [r2.length]; exact sz5 c, fun p hp => RG.new h2 g2 hp fun F' e q => ⟨p, _, rfl, q, r2.mono e⟩⟩
    · exact h2.elim⟩
theorem RG.newL {K : PySem.W.Frag} {s : Fs} {S : Store} {H : Hp} {ws : List W} {vs : List V} {Q : VK} {EX : Value → Option Addr → Hp → Prop} (h : RG K CT (RepW K CT) s (.ok (.loc S.length) (S ++ [.lst ws])) Q EX) (g : Gd K CT s S H) (r : RepWs K CT s ws vs)
    {p : Addr} (hp : H p = none) : Q (.ref p) (upd H p (.lst vs)) := by
  obtain ⟨g', x, e⟩ := g.newC (c := .lst ws) hp (upd H p (.lst vs)) (Ex.new hp) upd_same (fun s' x f1 f2 => ⟨f1, f2, vs, upd_same, r.mono x⟩)
  exact h _ _ _ x g' ⟨p, e, rfl⟩
theorem pz_lst (ha : PZA X CT U es fa) : PZ X CT U (.List es pos) (eLst fa) := weakE (pe_lst ha) fun σ H Q ⟨s, S, ρ, gd, en, h⟩ =>
  ⟨s, S, ρ, gd, en, RG.step h fun ws S1 s1 H1 vs x1 g1 r1 h1 => by
    split at h1
    · rename_i c
      exact ⟨by rw [r1.length]; exact sz5 c, fun p hp => RG.newL h1 g1 r1 hp⟩
    · exact h1.elim⟩
end

/-! ### items, len, slices -/
def seqW (S : Store) : W → Option (List W)
  | .val (.lst ps) => some (ps.map .val)
  | .val (.scr ns) => some (ns.map fun n => .val (.int n))
  | .loc n => match S[n]? with
    | some (.lst ws) => some ws
    | some (.frz (.lst ps)) => some (ps.map .val)
    | _ => none
  | _ => none
section
variable {K : PySem.W.Frag} {CT : CTb} {s : Fs} {S : Store} {H : Hp}
theorem RepL.ws : ∀ {ps : List P} {vs : List V}, RepL K CT s.F ps vs → RepWs K CT s (ps.map .val) vs
  | [], _, h => h
  | p :: ps, _, ⟨v, vs', h1, h2, h3⟩ => ⟨v, vs', h1, h2, RepL.ws h3⟩
theorem scr_ws : ∀ {ns : List Int}, RepWs K CT s (ns.map fun n => W.val (.int n)) (ns.map V.int)
  | [] => rfl
  | n :: ns => ⟨_, _, rfl, rfl, scr_ws⟩
theorem seqW_ok (g : Gd K CT s S H) {w : W} {v : V} {ws : List W} (r : RepW K CT s w v) (e : seqW S w = some ws) : ∃ a vs, v = .ref a ∧ SqL K H a vs ∧ RepWs K CT s ws vs := by
  cases w with
  | val p =>
    cases p with
    | lst ps => cases e; obtain ⟨a, vs, h1, h2, h3⟩ := r; exact ⟨a, vs, h1, SqL.of (g.exF _ _ h2), h3.ws⟩
    | scr ns => cases e; obtain ⟨a, h1, h2⟩ := r; exact ⟨a, _, h1, g.exF.sl h2, scr_ws⟩
    | _ => cases e
  | exc => cases e
  | loc n =>
    obtain ⟨a, h1, rfl⟩ := r
    unfold seqW at e
    cases hc : S[n]? with
    | none => simp [hc] at e
    | some c =>
      have q := g.cells n _ a hc h1
      cases c with
      | ins c ns ws => simp [hc] at e
      | dct c ws => simp [hc] at e
      | dcu c ws => simp [hc] at e
      | lst ws' =>
        simp only [hc] at e
        cases e
        obtain ⟨_, _, vs, q3, q4⟩ := q
        exact ⟨a, vs, rfl, SqL.of q3, q4⟩
      | frz p =>
        cases p with
        | lst ps =>
          simp only [hc] at e
          cases e
          obtain ⟨b, vs, hb, q3, q4⟩ := q
          cases hb
          exact ⟨_, vs, rfl, SqL.of (g.exF _ _ q3), q4.ws⟩
        | _ => simp [hc] at e
theorem atI_ws {ws : List W} {vs : List V} {i : Int} {w : W} (r : RepWs K CT s ws vs) (e : atI ws i = some w) : ∃ v, atI vs i = some v ∧ RepW K CT s w v := by
  unfold atI at e ⊢
  simp only [Option.bind_eq_some_iff] at e
  obtain ⟨j, e1, e2⟩ := e
  obtain ⟨v, h1, h2⟩ := r.get' e2
  exact ⟨v, by rw [r.length, e1]; exact h1, h2⟩
theorem atI_ps {F : Hp} {ps : List P} {vs : List V} {i : Int} {p : P} (r : RepL K CT F ps vs) (e : atI ps i = some p) : ∃ v, atI vs i = some v ∧ RepP K CT F p v := by
  unfold atI at e ⊢
  simp only [Option.bind_eq_some_iff] at e
  obtain ⟨j, e1, e2⟩ := e
  obtain ⟨v, h1, h2⟩ := r.get' e2
  exact ⟨v, by rw [r.length, e1]; exact h1, h2⟩
end
def orBad {α : Type} (o : Option α) (S : Store) : RE α := match o with
  | some a => .ok a S
  | none => .bad
def ixW : O2 := fun a b S => match b with
  | .val (.int i) => match a with
    | .val (.tup ps) => orBad ((atI ps i).map .val) S
    | .val (.str z) => if z.length ≤ 1000000 then orBad ((atI z.cps.toList i).map fun c => .val (.str ⟨#[c]⟩)) S else .bad
    | a => match seqW S a with
      | some ws => orBad (atI ws i) S
      | none => .bad
  | _ => .bad
section
variable {X : Cx} {CT : CTb} {U : WX} {a b c : Expr} {fa fb fc : FE W} {pos : Pos}
theorem RG.orBad {α γ : Type} {K : PySem.W.Frag} {Ra : Fs → α → γ → Prop} {s : Fs} {o : Option α} {S : Store} {Q : γ → Hp → Prop} {EX : Value → Option Addr → Hp → Prop} (h : RG K CT Ra s (orBad o S) Q EX) : ∃ a, o = some a ∧ RG K CT Ra s (.ok a S) Q EX := by
  cases o with
  | none => exact h.elim
  | some a => exact ⟨a, rfl, h⟩
theorem oz_ix {K : PySem.W.Frag} : OpZ K CT (rIx K) ixW := fun s S H a b x y Q EX gd ra rb h => by
  unfold ixW at h
  split at h
  · rename_i i
    split at h
    · rename_i ps
      obtain ⟨w, e, h⟩ := RG.orBad h
      simp only [Option.map_eq_some_iff] at e
      obtain ⟨p, e, rfl⟩ := e
      obtain ⟨a, vs, rfl, h1, h2⟩ := ra
      obtain ⟨v, e1, r1⟩ := atI_ps h2 e
      exact .inr (.inl ⟨a, vs, i, v, rfl, rb, gd.exF.st h1, e1, RG.here h gd r1⟩)
    · rename_i z
      split at h
      · rename_i c
        obtain ⟨w, e, h⟩ := RG.orBad h
        simp only [Option.map_eq_some_iff] at e
        obtain ⟨p, e, rfl⟩ := e
        exact .inr (.inr ⟨z, i, p, ra, rb, sz6 c, e, RG.here h gd rfl⟩)
      · exact h.elim
    · split at h
      · rename_i ws e
        obtain ⟨w, e1, h⟩ := RG.orBad h
        obtain ⟨a, vs, rfl, h1, h2⟩ := seqW_ok gd ra e
        obtain ⟨v, e2, r2⟩ := atI_ws h2 e1
        exact .inl ⟨a, vs, i, v, rfl, rb, h1, e2, RG.here h gd r2⟩
      · exact h.elim
  · exact h.elim
theorem pz_ix (ha : PZ X CT U a fa) (hb : PZ X CT U b fb) (hs : PlainIx b := by intro _ _; rfl) : PZ X CT U (.Subscript a b pos) (eBin ixW fa fb) := weakE (pe_ix ix_seq ha hb hs) fun σ H Q h => bin_can oz_ix h

/-! ### calls of built-ins -/
def CallZ (K : PySem.W.Frag) (CT : CTb) (r : List V → Hp → VK → Prop) (op : List W → Store → RE W) : Prop := ∀ (s : Fs) (S : Store) (H : Hp) (ws : List W) (vs : List V) (Q : VK) (EX : Value → Option Addr → Hp → Prop),
  Gd K CT s S H → RepWs K CT s ws vs → RG K CT (RepW K CT) s (op ws S) Q EX → r vs H Q
def eCB (op : List W → Store → RE W) (fa : FE (List W)) : FE W := fun ρ S => (fa ρ S).bind op
theorem cb_can {fa : FE (List W)} {r : List V → Hp → VK → Prop} {op : List W → Store → RE W} (hz : CallZ X.K CT r op) {σ : L2.St} {H : Hp} {Q : VK} (h : canE X.K CT U (eCB op fa) σ H Q) : tCB r (canA X.K CT U fa) σ H Q := by
  obtain ⟨s, S, ρ, gd, en, h⟩ := h
  exact ⟨s, S, ρ, gd, en, RG.step h fun ws S1 s1 H1 vs x1 g1 r1 h1 => hz s1 S1 H1 ws vs Q _ g1 r1 h1⟩
variable {e : Expr} {es : List Expr} {ga : FE (List W)} {x : Str} {p : Pos} {bid T : String} {r : List V → Hp → VK → Prop} {op : List W → Store → RE W}
theorem pz_callB (hc : CallR X (.builtin bid) r) (hz : CallZ X.K CT r op) (hg : Gl X x) (hm : X.mg x = none) (hv : bootBuiltins x = some (.builtin bid)) (ha : PZA X CT U (e :: es) ga) (hn : x ≠ "__name__" := by decide) (hdb : (x == ("__debug__" : Str)) = false := by decide)
    (he : starEach (e :: es) X.env = (false, eval e X.env) :: starEach es X.env := by rfl) (hpl : (backTo pos (starEach es X.env)).any (·.1) = false := by rfl) : PZ X CT U (.Call (.Name x p) (e :: es) [] pos) (eCB op ga) :=
  weakE (pe_callB hc hg hm hv ha hn hdb he hpl) fun σ H Q h => cb_can hz h
theorem pz_callTy (hc : CallR X (.type T) r) (hz : CallZ X.K CT r op) (hg : Gl X x) (hm : X.mg x = none) (hv : bootBuiltins x = some (.type T)) (ha : PZA X CT U (e :: es) ga) (hn : x ≠ "__name__" := by decide) (hdb : (x == ("__debug__" : Str)) = false := by decide)
    (he : starEach (e :: es) X.env = (false, eval e X.env) :: starEach es X.env := by rfl) (hpl : (backTo pos (starEach es X.env)).any (·.1) = false := by rfl) : PZ X CT U (.Call (.Name x p) (e :: es) [] pos) (eCB op ga) :=
  weakE (pe_callTy hc hg hm hv ha hn hdb he hpl) fun σ H Q h => cb_can hz h
theorem rep1 {K : PySem.W.Frag} {s : Fs} {w : W} {vs : List V} (r : RepWs K CT s [w] vs) : ∃ v, vs = [v] ∧ RepW K CT s w v := by
  obtain ⟨v, vs', rfl, h2, h3⟩ := r
  rw [show vs' = [] from h3]
  exact ⟨v, rfl, h2⟩
theorem rep2 {K : PySem.W.Frag} {s : Fs} {w u : W} {vs : List V} (r : RepWs K CT s [w, u] vs) : ∃ v v', vs = [v, v'] ∧ RepW K CT s w v ∧ RepW K CT s u v' := by
  obtain ⟨v, vs', rfl, h2, h3⟩ := r
  obtain ⟨v', rfl, h4⟩ := rep1 h3
  exact ⟨v, v', rfl, h2, h4⟩

def lenOf (S : Store) : W → Option Nat
  | .val (.str z) => if z.length ≤ 1000000 then some z.length else none
  | .val (.tup ps) => some ps.length
  | w => (seqW S w).map List.length
def lenW : List W → Store → RE W
  | [w], S => orBad ((lenOf S w).map fun (n : Nat) => W.val (.int (n : Int))) S
  | _, _ => .bad
theorem cz_len {K : PySem.W.Frag} : CallZ K CT (fun xs H Q => ∃ x n, xs = [x] ∧ LenV K x H n ∧ Q (.int n) H) lenW := fun s S H ws vs Q EX gd r h => by
  unfold lenW at h
  split at h
  · rename_i w
    obtain ⟨v, rfl, rw⟩ := rep1 r
    obtain ⟨k, e, h⟩ := RG.orBad h
    simp only [Option.map_eq_some_iff] at e
    obtain ⟨n, e, rfl⟩ := e
    refine ⟨v, n, rfl, ?_, RG.here h gd rfl⟩
    unfold lenOf at e
    split at e
    · rename_i z
      split at e
      · rename_i c
        cases e
        rw [show v = _ from rw]
        exact ⟨sz6 c, rfl⟩
      · cases e
    · rename_i ps
      cases e
      obtain ⟨a, vs, rfl, h1, h2⟩ := rw
      exact .inr ⟨vs, gd.exF.st h1, h2.length.symm⟩
    · simp only [Option.map_eq_some_iff] at e
      obtain ⟨ws, e, rfl⟩ := e
      obtain ⟨a, vs, rfl, h1, h2⟩ := seqW_ok gd rw e
      exact .inl ⟨vs, h1, h2.length.symm⟩
  · exact h.elim
theorem pz_len (hg : Gl X "len") (hm : X.mg "len" = none) (ha : PZA X CT U [a] ga) (he : starEach [a] X.env = (false, eval a X.env) :: starEach [] X.env := by rfl) : PZ X CT U (.Call (.Name "len" p) [a] [] pos) (eCB lenW ga) :=
  pz_callB call_len cz_len hg hm PySem.boot_len ha (by decide) (by decide) he rfl
def absW : List W → Store → RE W
  | [.val (.int i)], S => .ok (.val (.int (if i < 0 then -i else i))) S
  | _, _ => .bad
theorem cz_abs {K : PySem.W.Frag} : CallZ K CT (fun xs H Q => ∃ i, xs = [.int i] ∧ Q (.int (if i < 0 then -i else i)) H) absW := fun s S H ws vs Q EX gd r h => by
  unfold absW at h
  split at h
  · rename_i i
    obtain ⟨v, rfl, rw⟩ := rep1 r
    exact ⟨i, by rw [show v = _ from rw], RG.here h gd rfl⟩
  · exact h.elim
theorem pz_abs (hg : Gl X "abs") (hm : X.mg "abs" = none) (ha : PZA X CT U [a] ga) (he : starEach [a] X.env = (false, eval a X.env) :: starEach [] X.env := by rfl) : PZ X CT U (.Call (.Name "abs" p) [a] [] pos) (eCB absW ga) :=
  pz_callB call_abs cz_abs hg hm (by decide +kernel) ha (by decide) (by decide) he rfl
/-- int(number), int(flag) -/
def intW : List W → Store → RE W
  | [.val (.int i)], S => .ok (.val (.int i)) S
  | [.val (.bl b)], S => .ok (.val (.int (if b = true then 1 else 0))) S
  | _, _ => .bad
theorem cz_int {K : PySem.W.Frag} : CallZ K CT (fun xs H Q => (∃ i, xs = [.int i] ∧ Q (.int i) H) ∨ ∃ k, xs = [.bl k] ∧ Q (.int (if k then 1 else 0)) H) intW := fun s S H ws vs Q EX gd r h => by
  unfold intW at h
  split at h
  · rename_i i
    obtain ⟨v, rfl, rw⟩ := rep1 r
    exact .inl ⟨i, by rw [show v = _ from rw], RG.here h gd rfl⟩
  · rename_i i
    obtain ⟨v, rfl, rw⟩ := rep1 r
    exact .inr ⟨i, by rw [show v = _ from rw], RG.here h gd rfl⟩
  · exact h.elim
theorem pz_int1 (hg : Gl X "int") (hm : X.mg "int" = none) (ha : PZA X CT U [a] ga) (he : starEach [a] X.env = (false, eval a X.env) :: starEach [] X.env := by rfl) : PZ X CT U (.Call (.Name "int" p) [a] [] pos) (eCB intW ga) :=
  pz_callTy call_int1 cz_int hg hm (by decide +kernel) ha (by decide) (by decide) he rfl
def max2W : List W → Store → RE W
  | [.val (.int i), .val (.int j)], S => .ok (.val (.int (if j > i then j else i))) S
  | _, _ => .bad
def min2W : List W → Store → RE W
  | [.val (.int i), .val (.int j)], S => .ok (.val (.int (if j < i then j else i))) S
  | _, _ => .bad
theorem cz_max2 {K : PySem.W.Frag} : CallZ K CT (fun xs H Q => ∃ i j, xs = [.int i, .int j] ∧ Q (.int (if j > i then j else i)) H) max2W := fun s S H ws vs Q EX gd r h => by
  unfold max2W at h
  split at h
  · rename_i i j
    obtain ⟨v, v', rfl, r1, r2⟩ := rep2 r
    exact ⟨i, j, by rw [show v = _ from r1, show v' = _ from r2], RG.here h gd rfl⟩
  · exact h.elim
theorem cz_min2 {K : PySem.W.Frag} : CallZ K CT (fun xs H Q => ∃ i j, xs = [.int i, .int j] ∧ Q (.int (if j < i then j else i)) H) min2W := fun s S H ws vs Q EX gd r h => by
  unfold min2W at h
  split at h
  · rename_i i j
    obtain ⟨v, v', rfl, r1, r2⟩ := rep2 r
    exact ⟨i, j, by rw [show v = _ from r1, show v' = _ from r2], RG.here h gd rfl⟩
  · exact h.elim
theorem pz_max2 (hc : X.calm = true) (hg : Gl X "max") (hm : X.mg "max" = none) (ha : PZA X CT U [a, b] ga) (he : starEach [a, b] X.env = (false, eval a X.env) :: starEach [b] X.env := by rfl) (hpl : (backTo pos (starEach [b] X.env)).any (·.1) = false := by rfl) : PZ X CT U (.Call (.Name "max" p) [a, b] [] pos) (eCB max2W ga) :=
  pz_callB (call_max2 hc) cz_max2 hg hm (by decide +kernel) ha (by decide) (by decide) he hpl
theorem pz_min2 (hc : X.calm = true) (hg : Gl X "min") (hm : X.mg "min" = none) (ha : PZA X CT U [a, b] ga) (he : starEach [a, b] X.env = (false, eval a X.env) :: starEach [b] X.env := by rfl) (hpl : (backTo pos (starEach [b] X.env)).any (·.1) = false := by rfl) : PZ X CT U (.Call (.Name "min" p) [a, b] [] pos) (eCB min2W ga) :=
  pz_callB (call_min2 hc) cz_min2 hg hm (by decide +kernel) ha (by decide) (by decide) he hpl
/-! sum(list of ints), all(list of bools), any -/
def intsOf : List P → Option (List Int)
  | [] => some []
  | .int i :: ps => (intsOf ps).map (i :: ·)
  | _ :: _ => none
def boolsOf : List P → Option (List Bool)
  | [] => some []
  | .bl i :: ps => (boolsOf ps).map (i :: ·)
  | _ :: _ => none
theorem intsOf_ok {K : PySem.W.Frag} {F : Hp} : ∀ {ps : List P} {vs : List V} {ns : List Int}, intsOf ps = some ns → RepL K CT F ps vs → vs = ns.map V.int
  | [], _, _, e, h => by cases e; exact h
  | p :: ps, _, _, e, ⟨v, vs', h1, h2, h3⟩ => by
    cases p with
    | int i =>
      simp only [intsOf, Option.map_eq_some_iff] at e
      obtain ⟨ns, e, rfl⟩ := e
      rw [h1, show v = _ from h2, intsOf_ok e h3, List.map_cons]
    | _ => cases e
theorem boolsOf_ok {K : PySem.W.Frag} {F : Hp} : ∀ {ps : List P} {vs : List V} {ns : List Bool}, boolsOf ps = some ns → RepL K CT F ps vs → vs = ns.map V.bl
  | [], _, _, e, h => by cases e; exact h
  | p :: ps, _, _, e, ⟨v, vs', h1, h2, h3⟩ => by
    cases p with
    | bl i =>
      simp only [boolsOf, Option.map_eq_some_iff] at e
      obtain ⟨ns, e, rfl⟩ := e
      rw [h1, show v = _ from h2, boolsOf_ok e h3, List.map_cons]
    | _ => cases e
def sumW : List W → Store → RE W
  | [w], S => match pOf S w with
    | some (.lst ps) => orBad ((intsOf ps).map fun ns => .val (.int ns.sum)) S
    | _ => .bad
  | _, _ => .bad
def allW (every : Bool) : List W → Store → RE W
  | [w], S => match pOf S w with
    | some (.lst ps) => orBad ((boolsOf ps).map fun bs => .val (.bl (if every = true then bs.all id else bs.any id))) S
    | _ => .bad
  | _, _ => .bad
theorem cz_sum {K : PySem.W.Frag} : CallZ K CT (rSum K) sumW := fun s S H ws vs Q EX gd r h => by
  unfold sumW at h
  split at h
  · rename_i w
    obtain ⟨v, rfl, rw⟩ := rep1 r
    split at h
    · rename_i ps e
      obtain ⟨a, vs, rfl, h1, h2⟩ := (pOf_ok gd rw e).lst gd
      obtain ⟨k, e, h⟩ := RG.orBad h
      simp only [Option.map_eq_some_iff] at e
      obtain ⟨ns, e, rfl⟩ := e
      have e2 := intsOf_ok e h2
      subst e2
      exact ⟨a, ns, rfl, SqL.of h1, RG.here h gd rfl⟩
    · exact h.elim
  · exact h.elim
theorem cz_all {K : PySem.W.Frag} : CallZ K CT (rAll K) (allW true) := fun s S H ws vs Q EX gd r h => by
  unfold allW at h
  split at h
  · rename_i w
    obtain ⟨v, rfl, rw⟩ := rep1 r
    split at h
    · rename_i ps e
      obtain ⟨a, vs, rfl, h1, h2⟩ := (pOf_ok gd rw e).lst gd
      obtain ⟨k, e, h⟩ := RG.orBad h
      simp only [Option.map_eq_some_iff] at e
      obtain ⟨ns, e, rfl⟩ := e
      have e2 := boolsOf_ok e h2
      subst e2
      exact ⟨a, ns, rfl, SqL.of h1, RG.here h gd rfl⟩
    · exact h.elim
  · exact h.elim
theorem cz_any {K : PySem.W.Frag} : CallZ K CT (rAny K) (allW false) := fun s S H ws vs Q EX gd r h => by
  unfold allW at h
  split at h
  · rename_i w
    obtain ⟨v, rfl, rw⟩ := rep1 r
    split at h
    · rename_i ps e
      obtain ⟨a, vs, rfl, h1, h2⟩ := (pOf_ok gd rw e).lst gd
      obtain ⟨k, e, h⟩ := RG.orBad h
      simp only [Option.map_eq_some_iff] at e
      obtain ⟨ns, e, rfl⟩ := e
      have e2 := boolsOf_ok e h2
      subst e2
      exact ⟨a, ns, rfl, SqL.of h1, RG.here h gd rfl⟩
    · exact h.elim
  · exact h.elim
theorem pz_sum (hc : X.calm = true) (hg : Gl X "sum") (hm : X.mg "sum" = none) (ha : PZA X CT U [a] ga) (he : starEach [a] X.env = (false, eval a X.env) :: starEach [] X.env := by rfl) : PZ X CT U (.Call (.Name "sum" p) [a] [] pos) (eCB sumW ga) :=
  pz_callB (cr_sum hc) cz_sum hg hm (by decide +kernel) ha (by decide) (by decide) he rfl
theorem pz_all (hc : X.calm = true) (hg : Gl X "all") (hm : X.mg "all" = none) (ha : PZA X CT U [a] ga) (he : starEach [a] X.env = (false, eval a X.env) :: starEach [] X.env := by rfl) : PZ X CT U (.Call (.Name "all" p) [a] [] pos) (eCB (allW true) ga) :=
  pz_callB (cr_all hc) cz_all hg hm (by decide +kernel) ha (by decide) (by decide) he rfl
theorem pz_any (hc : X.calm = true) (hg : Gl X "any") (hm : X.mg "any" = none) (ha : PZA X CT U [a] ga) (he : starEach [a] X.env = (false, eval a X.env) :: starEach [] X.env := by rfl) : PZ X CT U (.Call (.Name "any" p) [a] [] pos) (eCB (allW false) ga) :=
  pz_callB (cr_any hc) cz_any hg hm (by decide +kernel) ha (by decide) (by decide) he rfl
end
end Z
end
-- part Z4
section
set_option Elab.async false
set_option linter.all false
set_option maxRecDepth 100000
set_option autoImplicit false
namespace Z
open PySem PySem.Spec PyProof.Rows L2

/-! ### targets -/
inductive Tg where
  | nm (i : Nat) | tp (ts : List Tg)
mutual
def tgG (K : PySem.W.Frag) : Tg → TG
  | .nm i => gName i
  | .tp ts => gTup K ts.length (tgGs K ts)
def tgGs (K : PySem.W.Frag) : List Tg → TGs
  | [] => gNil
  | t :: ts => gCons (tgG K t) (tgGs K ts)
end
mutual
def bindT : Tg → P → Env → Option Env
  | .nm i, p, ρ => some (ρ.set i (some (.val p)))
  | .tp ts, .tup ps, ρ => bindTs ts ps ρ
  | .tp _, _, _ => none
def bindTs : List Tg → List P → Env → Option Env
  | [], [], ρ => some ρ
  | t :: ts, p :: ps, ρ => (bindT t p ρ).bind (bindTs ts ps)
  | _, _, _ => none
end
mutual
def slots : Tg → List Nat
  | .nm i => [i]
  | .tp ts => slotss ts
def slotss : List Tg → List Nat
  | [] => []
  | t :: ts => slots t ++ slotss ts
end
def wipeE (ρ : Env) : List Nat → Env
  | [] => ρ
  | v :: vs => (wipeE ρ vs).set v none
section
variable {K : PySem.W.Frag} {CT : CTb} {s : Fs} {H : Hp}
theorem EnvOk.wipe {ρ : Env} {σ : L2.St} (e : EnvOk K CT s ρ σ) : ∀ vs : List Nat, EnvOk K CT s (wipeE ρ vs) (L2.wipe σ vs)
  | [] => e
  | v :: vs => (EnvOk.wipe e vs).unset none
theorem wipe_get (σ : L2.St) (k : Nat) : ∀ vs : List Nat, (L2.wipe σ vs)[k]? = if k ∈ vs ∧ k < σ.length then some none else σ[k]?
  | [] => by simp [L2.wipe]
  | v :: vs => by
    unfold L2.wipe
    rw [List.getElem?_set, wipe_get σ k vs, wipe_length]
    by_cases e : v = k
    · subst e
      by_cases l : v < σ.length
      · simp [l]
      · simp [l, List.getElem?_eq_none (Nat.le_of_not_lt l)]
    · have e' : ¬ k = v := fun z => e z.symm
      simp [e, e']
theorem wipe_set {σ : L2.St} {i : Nat} {x : Option V} {vs : List Nat} (h : i ∈ vs) : L2.wipe (σ.set i x) vs = L2.wipe σ vs := by
  apply List.ext_getElem?
  intro k
  rw [wipe_get, wipe_get, List.length_set, List.getElem?_set]
  by_cases e : i = k
  · subst e
    by_cases l : i < σ.length
    · simp [h, l]
    · simp [l, List.getElem?_eq_none (Nat.le_of_not_lt l)]
  · simp [e]
theorem bindTs_len : ∀ {ts : List Tg} {ps : List P} {ρ ρ' : Env}, bindTs ts ps ρ = some ρ' → ps.length = ts.length
  | [], [], _, _, _ => rfl
  | [], _ :: _, _, _, e => by simp [bindTs] at e
  | _ :: _, [], _, _, e => by simp [bindTs] at e
  | t :: ts, p :: ps, ρ, ρ', e => by
    simp only [bindTs, Option.bind_eq_some_iff] at e
    obtain ⟨ρ1, e1, e2⟩ := e
    rw [List.length_cons, List.length_cons, bindTs_len e2]
mutual
theorem bind_ok : ∀ (t : Tg) {p : P} {x : V} {ρ ρ' : Env} {σ : L2.St} {Q : L2.St → Hp → Prop}, Ex s.F H → RepP K CT s.F p x → EnvOk K CT s ρ σ → bindT t p ρ = some ρ' →
    (∀ σ', EnvOk K CT s ρ' σ' → (∀ vs, (∀ i ∈ slots t, i ∈ vs) → L2.wipe σ' vs = L2.wipe σ vs) → Q σ' H) → tgG K t x σ H Q
  | .nm i, p, x, ρ, ρ', σ, Q, eF, r, en, e, h => by
    cases e
    exact h _ (en.set r) (fun vs hv => wipe_set (hv i (by simp [slots])))
  | .tp ts, p, x, ρ, ρ', σ, Q, eF, r, en, e, h => by
    cases p with
    | tup ps =>
      obtain ⟨a, vs, rfl, h1, h2⟩ := r
      exact ⟨a, vs, rfl, eF.st h1, by rw [h2.length]; exact bindTs_len e, bind_oks ts eF h2 en e (fun σ' e' w => h σ' e' w)⟩
    | _ => cases e
theorem bind_oks : ∀ (ts : List Tg) {ps : List P} {xs : List V} {ρ ρ' : Env} {σ : L2.St} {Q : L2.St → Hp → Prop}, Ex s.F H → RepL K CT s.F ps xs → EnvOk K CT s ρ σ → bindTs ts ps ρ = some ρ' →
    (∀ σ', EnvOk K CT s ρ' σ' → (∀ vs, (∀ i ∈ slotss ts, i ∈ vs) → L2.wipe σ' vs = L2.wipe σ vs) → Q σ' H) → tgGs K ts xs σ H Q
  | [], ps, xs, ρ, ρ', σ, Q, eF, r, en, e, h => by
    cases ps with
    | nil =>
      cases e
      have r' := show xs = [] from r
      subst r'
      exact ⟨rfl, h σ en (fun _ _ => rfl)⟩
    | cons p ps => cases e
  | t :: ts, ps, xs, ρ, ρ', σ, Q, eF, r, en, e, h => by
    cases ps with
    | nil => cases e
    | cons p ps =>
      obtain ⟨v, vs, rfl, h2, h3⟩ := r
      simp only [bindTs, Option.bind_eq_some_iff] at e
      obtain ⟨ρ1, e1, e2⟩ := e
      refine ⟨v, vs, rfl, bind_ok t (Q := fun σ' H' => tgGs K ts vs σ' H' Q) eF h2 en e1 fun σ1 en1 w1 => ?_⟩
      exact bind_oks ts eF h3 en1 e2 fun σ2 en2 w2 => h σ2 en2 fun us hu => by
        rw [w2 us fun i hi => hu i (by simp [slotss, hi]), w1 us fun i hi => hu i (by simp [slotss, hi])]
end
end

/-! ### what is walked -/
def WalkP (K : PySem.W.Frag) (CT : CTb) (F : Hp) (ps : List P) (J : It) : Prop := ∃ (G : Hp → Prop) (Y : Nat → Hp → V → Hp → Prop), Walk J ps.length G Y ∧ (∀ H, Ex F H → G H) ∧
  ∀ i H x H', i < ps.length → Ex F H → Y i H x H' → ∃ p, ps[i]? = some p ∧ ((H' = H ∧ RepP K CT F p x) ∨ ∃ T o, H T = none ∧ H' = upd H T o ∧ ∀ F', Ex F F' → F' T = some o → RepP K CT F' p x)
abbrev FI := FE (List P)
def canI (K : PySem.W.Frag) (CT : CTb) (U : WX) (f : FI) : TI := fun σ H Rr => ∃ s S ρ, Gd K CT s S H ∧ EnvOk K CT s ρ σ ∧ RG K CT (fun s' ps J => WalkP K CT s'.F ps J) s (f ρ S) Rr (fun c d H' => U c d σ H')
abbrev PZI (X : Cx) (CT : CTb) (U : WX) (tg e : Expr) (f : FI) : Prop := PI X tg e (canI X.K CT U f)
theorem weakI {X : Cx} {tg e : Expr} {t t' : TI} (h : PI X tg e t) (w : ∀ σ H Q, t' σ H Q → t σ H Q) : PI X tg e t' := ⟨fun pins s σ H Q I q => h.run pins s σ H Q I (w σ H Q q)⟩
theorem PI.or {X : Cx} {tg e : Expr} {t t' : TI} (h : PI X tg e t) (h' : PI X tg e t') : PI X tg e (fun σ H Q => t σ H Q ∨ t' σ H Q) := ⟨fun pins s σ H Q I q => by
  rcases q with q | q
  · exact h.run pins s σ H Q I q
  · exact h'.run pins s σ H Q I q⟩
def itemsW (w : W) (S : Store) : RE (List P) := match w with
  | .val (.tup ps) => .ok ps S
  | .val (.str z) => .ok (z.cps.toList.map fun c => .str ⟨#[c]⟩) S
  | .val (.scr ns) => .ok (ns.map .int) S
  | w => match frz1 S w with
    | some (.lst ps, S') => .ok ps S'
    | _ => .bad
def iSeq (f : FE W) : FI := fun ρ S => (f ρ S).bind itemsW
section
variable {K : PySem.W.Frag} {CT : CTb} {F : Hp}
theorem walkL {a : Addr} {vs : List V} {ps : List P} (h : ∀ H, Ex F H → SqL K H a vs) (r : RepL K CT F ps vs) : WalkP K CT F ps (Itl K a) := by
  refine ⟨_, _, by rw [← r.length]; exact walk_list (a := a) (xs := vs), h, fun i H x H' hi e y => ?_⟩
  obtain ⟨rfl, y⟩ := y
  obtain ⟨p, h1, h2⟩ := r.get y
  exact ⟨p, h1, .inl ⟨rfl, h2⟩⟩
theorem walkT {a : Addr} {vs : List V} {ps : List P} (h : SqT K F a vs) (r : RepL K CT F ps vs) : WalkP K CT F ps (Itt K a) := by
  refine ⟨_, _, by rw [← r.length]; exact walk_tup (a := a) (xs := vs), fun H e => e.st h, fun i H x H' hi e y => ?_⟩
  obtain ⟨rfl, y⟩ := y
  obtain ⟨p, h1, h2⟩ := r.get y
  exact ⟨p, h1, .inl ⟨rfl, h2⟩⟩
theorem walkS {z : Str} : WalkP K CT F (z.cps.toList.map fun c => P.str ⟨#[c]⟩) (Its z) := by
  refine ⟨_, _, by rw [List.length_map, Array.length_toList]; exact walk_str (z := z), fun _ _ => trivial, fun i H x H' hi e y => ?_⟩
  obtain ⟨rfl, c, h1, rfl⟩ := y
  exact ⟨.str ⟨#[c]⟩, by rw [List.getElem?_map, Array.getElem?_toList, h1]; rfl, .inl ⟨rfl, rfl⟩⟩
theorem scr_rep : ∀ {ns : List Int}, RepL K CT F (ns.map P.int) (ns.map V.int)
  | [] => rfl
  | n :: ns => ⟨_, _, rfl, rfl, scr_rep⟩
end
section
variable {X : Cx} {CT : CTb} {U : WX} {tg e : Expr} {fe : FE W} {fi : FI} {pos : Pos}
theorem zi_seq (ha : PZ X CT U e fe) : PZI X CT U tg e (iSeq fe) := weakI (PI.or (pi_list ha) (PI.or (pi_tup ha) (pi_str ha))) fun σ H Rr ⟨s, S, ρ, gd, en, h⟩ => by
  unfold iSeq at h
  cases er : fe ρ S with
  | bad => rw [er] at h; exact h.elim
  | ex x S1 => rw [er] at h; exact .inl ⟨s, S, ρ, gd, en, by rw [er]; exact h⟩
  | ok w S1 =>
    have h' := h
    rw [er] at h'
    have fin : ∀ {w0 : W}, w = w0 → (itemsW w0 S1 = (match frz1 S1 w0 with | some (.lst ps, S') => .ok ps S' | _ => .bad)) → iList X.K (canE X.K CT U fe) σ H Rr := by
      rintro _ rfl hi
      refine ⟨s, S, ρ, gd, en, ?_⟩
      rw [er]
      intro s1 H1 v x1 g1 r1
      have h2 : RG X.K CT (fun s' ps J => WalkP X.K CT s'.F ps J) s1 (itemsW w S1) Rr _ := RG.ext x1 h'
      rw [hi] at h2
      cases ef : frz1 S1 w with
      | none => rw [ef] at h2; exact h2.elim
      | some q =>
        obtain ⟨p, S2⟩ := q
        rw [ef] at h2
        cases p with
        | lst ps =>
          obtain ⟨s2, x2, g2, r2⟩ := frz1_ok g1 r1 ef
          obtain ⟨a, vs, rfl, q1, q2⟩ := r2
          exact ⟨a, rfl, ⟨vs, SqL.of (g2.exF _ _ q1)⟩, h2 s2 H1 _ x2 g2 (walkL (fun H e => SqL.of (e _ _ q1)) q2)⟩
        | _ => exact h2.elim
    cases w with
    | loc n => exact .inl (fin rfl rfl)
    | exc => exact .inl (fin rfl rfl)
    | val p =>
      cases p with
      | tup ps =>
        refine .inr (.inl ⟨s, S, ρ, gd, en, ?_⟩)
        rw [er]
        intro s1 H1 v x1 g1 r1
        have h2 : RG X.K CT (fun s' ps J => WalkP X.K CT s'.F ps J) s1 (.ok ps S1) Rr _ := RG.ext x1 h'
        obtain ⟨a, vs, rfl, q1, q2⟩ := r1
        exact ⟨a, rfl, ⟨vs, g1.exF.st q1⟩, RG.here h2 g1 (walkT q1 q2)⟩
      | str z =>
        refine .inr (.inr ⟨s, S, ρ, gd, en, ?_⟩)
        rw [er]
        intro s1 H1 v x1 g1 r1
        have h2 : RG X.K CT (fun s' ps J => WalkP X.K CT s'.F ps J) s1 (.ok _ S1) Rr _ := RG.ext x1 h'
        exact ⟨z, r1, RG.here h2 g1 walkS⟩
      | scr ns =>
        refine .inl ⟨s, S, ρ, gd, en, ?_⟩
        rw [er]
        intro s1 H1 v x1 g1 r1
        have h2 : RG X.K CT (fun s' ps J => WalkP X.K CT s'.F ps J) s1 (.ok _ S1) Rr _ := RG.ext x1 h'
        obtain ⟨a, rfl, q1⟩ := r1
        exact ⟨a, rfl, ⟨_, g1.exF.sl q1⟩, RG.here h2 g1 (walkL (fun H e => e.sl q1) scr_rep)⟩
      | lst ps => exact .inl (fin rfl rfl)
      | _ => exact h'.elim
/-! range, zip -/
def rngOk (i j : Int) : Bool := decide (-(2 ^ 62) ≤ i) && decide (i < 2 ^ 62) && decide (-(2 ^ 62) ≤ j) && decide (j < 2 ^ 62)
def rngP (lo : Int) (n : Nat) : List P := (List.range n).map fun (k : Nat) => P.int (lo + (k : Int))
theorem walkR {K : PySem.W.Frag} {F : Hp} {lo : Int} {n : Nat} : WalkP K CT F (rngP lo n) (Itr lo n) := by
  refine ⟨_, _, by unfold rngP; rw [List.length_map, List.length_range]; exact walk_range, fun _ _ => trivial, fun i H x H' hi e y => ?_⟩
  obtain ⟨rfl, rfl⟩ := y
  unfold rngP at hi ⊢
  rw [List.length_map, List.length_range] at hi
  exact ⟨.int (lo + i), by rw [List.getElem?_map, List.getElem?_range hi]; rfl, .inl ⟨rfl, rfl⟩⟩
def iRange1 (fa : FE (List W)) : FI := fun ρ S => (fa ρ S).bind fun ws S1 => match ws with
  | [.val (.int j)] => if rngOk 0 j = true then .ok (rngP 0 j.toNat) S1 else .bad
  | _ => .bad
def iRange2 (fa : FE (List W)) : FI := fun ρ S => (fa ρ S).bind fun ws S1 => match ws with
  | [.val (.int i), .val (.int j)] => if rngOk i j = true then .ok (rngP i (j - i).toNat) S1 else .bad
  | _ => .bad
variable {a b : Expr} {ga : FE (List W)} {p : Pos}
theorem zi_range1 (hg : Gl X "range") (hm : X.mg "range" = none) (ha : PZA X CT U [a] ga) (hs : starEach [a] X.env = [(false, eval a X.env)] := by rfl) : PZI X CT U tg (.Call (.Name "range" p) [a] [] pos) (iRange1 ga) := weakI (pi_range1 hg hm ha hs) fun σ H Rr ⟨s, S, ρ, gd, en, h⟩ =>
  ⟨s, S, ρ, gd, en, RG.step h fun ws S1 s1 H1 vs x1 g1 r1 h1 => by
    split at h1
    · rename_i j
      obtain ⟨v, rfl, rv⟩ := rep1 r1
      split at h1
      · rename_i c
        simp only [rngOk, Bool.and_eq_true, decide_eq_true_eq] at c
        exact ⟨j, by rw [show v = _ from rv], c.1.2, c.2, RG.here h1 g1 walkR⟩
      · exact h1.elim
    · exact h1.elim⟩
theorem zi_range2 (hg : Gl X "range") (hm : X.mg "range" = none) (ha : PZA X CT U [a, b] ga) (hs : starEach [a, b] X.env = [(false, eval a X.env), (false, eval b X.env)] := by rfl) (hs2 : starEach [b] X.env = [(false, eval b X.env)] := by rfl) :
    PZI X CT U tg (.Call (.Name "range" p) [a, b] [] pos) (iRange2 ga) := weakI (pi_range2 hg hm ha hs hs2) fun σ H Rr ⟨s, S, ρ, gd, en, h⟩ =>
  ⟨s, S, ρ, gd, en, RG.step h fun ws S1 s1 H1 vs x1 g1 r1 h1 => by
    split at h1
    · rename_i i j
      obtain ⟨v, v', rfl, rv, rv'⟩ := rep2 r1
      split at h1
      · rename_i c
        simp only [rngOk, Bool.and_eq_true, decide_eq_true_eq] at c
        exact ⟨i, j, by rw [show v = _ from rv, show v' = _ from rv'], ⟨c.1.1.1, c.1.1.2, c.1.2, c.2⟩, RG.here h1 g1 walkR⟩
      · exact h1.elim
    · exact h1.elim⟩
/-- zip of two lists (what is walked is frozen) -/
def iZip (fa : FE (List W)) : FI := fun ρ S => (fa ρ S).bind fun ws S1 => (doFrzs ws S1).bind fun ps S2 => match ps with
  | [.lst xs, .lst ys] => .ok ((xs.zip ys).map fun q => .tup [q.1, q.2]) S2
  | _ => .bad
theorem pair_rep {K : PySem.W.Frag} {F : Hp} {T : Addr} {p q : P} {x z : V} (f : F T = some (.tup [x, z])) (h1 : RepP K CT F p x) (h2 : RepP K CT F q z) : RepP K CT F (.tup [p, q]) (.ref T) :=
  ⟨T, [x, z], rfl, .inl (.inl f), x, [z], rfl, h1, z, [], rfl, h2, rfl⟩
theorem zipw {K : PySem.W.Frag} {F : Hp} {a b : Addr} {xs ys : List V} {ps qs : List P} (h1 : F a = some (.lst xs)) (h2 : F b = some (.lst ys)) (r1 : RepL K CT F ps xs) (r2 : RepL K CT F qs ys) :
    WalkP K CT F ((ps.zip qs).map fun q => P.tup [q.1, q.2]) (Itz K a b) := by
  refine ⟨fun H => SqL K H a xs ∧ SqL K H b ys, YPair (fun i => xs[i]?) (fun i => ys[i]?), by rw [List.length_map, List.length_zip, ← r1.length, ← r2.length]; exact walk_zip (xs := xs) (ys := ys) rfl, fun H e => ⟨SqL.of (e _ _ h1), SqL.of (e _ _ h2)⟩, fun i H v H' hi e y => ?_⟩
  obtain ⟨T, x, z, rfl, hT, rfl, e1, e2⟩ := y
  obtain ⟨p, p1, p2⟩ := r1.get e1
  obtain ⟨q, q1, q2⟩ := r2.get e2
  refine ⟨.tup [p, q], ?_, .inr ⟨T, .tup [x, z], hT, rfl, fun F' e f => ?_⟩⟩
  case refine_2 => exact pair_rep f (p2.mono e) (q2.mono e)
  rw [List.getElem?_map]
  have : (ps.zip qs)[i]? = some (p, q) := by rw [List.getElem?_zip_eq_some]; exact ⟨p1, q1⟩
  rw [this]; rfl
theorem zi_zip {elts : List Expr} {kk : Nat} {tpos : Pos} (hg : Gl X "zip") (hm : X.mg "zip" = none) (ha : PZA X CT U [a, b] ga)
    (hs : starEach [a, b] X.env = (false, eval a X.env) :: starEach [b] X.env := by rfl) (hpl : (backTo pos (starEach [b] X.env)).any (·.1) = false := by rfl) : PZI X CT U (.Tuple elts kk tpos) (.Call (.Name "zip" p) [a, b] [] pos) (iZip ga) :=
  weakI (pi_zip hg hm ha hs hpl) fun σ H Rr ⟨s, S, ρ, gd, en, h⟩ => ⟨s, S, ρ, gd, en, RG.step h fun ws S1 s1 H1 vs x1 g1 r1 h1 => by
    obtain ⟨ps, S2, s2, x2, g2, r2, h2⟩ := RG.frzs g1 r1 h1
    split at h2
    · rename_i xs ys
      obtain ⟨v, _, rfl, rv, v', _, rfl, rv', e⟩ := r2
      have e := show _ = [] from e
      subst e
      obtain ⟨a1, us, rfl, f1, l1⟩ := rv
      obtain ⟨a2, us2, rfl, f2, l2⟩ := rv'
      exact ⟨a1, a2, us, us2, rfl, SqL.of (g2.exF _ _ f1), SqL.of (g2.exF _ _ f2), RG.here h2 g2 (zipw f1 f2 l1 l2)⟩
    · exact h2.elim⟩
/-- enumerate(list) -/
def iEnum (fa : FE (List W)) : FI := fun ρ S => (fa ρ S).bind fun ws S1 => (doFrzs ws S1).bind fun ps S2 => match ps with
  | [.lst xs] => .ok (((List.range xs.length).zip xs).map fun q => .tup [.int (q.1 : Int), q.2]) S2
  | _ => .bad
theorem enumw {K : PySem.W.Frag} {F : Hp} {a : Addr} {xs : List V} {ps : List P} (h1 : F a = some (.lst xs)) (r1 : RepL K CT F ps xs) :
    WalkP K CT F (((List.range ps.length).zip ps).map fun q => P.tup [.int (q.1 : Int), q.2]) (Ite K a) := by
  refine ⟨fun H => SqL K H a xs, YPair (fun i => some (.int (i : Nat))) (fun i => xs[i]?), by rw [List.length_map, List.length_zip, List.length_range, Nat.min_self, ← r1.length]; exact walk_enum (xs := xs), fun H e => SqL.of (e _ _ h1), fun i H v H' hi e y => ?_⟩
  obtain ⟨T, x, z, rfl, hT, rfl, e1, e2⟩ := y
  cases e1
  obtain ⟨p, p1, p2⟩ := r1.get e2
  refine ⟨.tup [.int (i : Nat), p], ?_, .inr ⟨T, .tup [.int (i : Nat), z], hT, rfl, fun F' e f => ?_⟩⟩
  case refine_2 => exact pair_rep f rfl (p2.mono e)
  have hl := (List.getElem?_eq_some_iff.mp p1).1
  rw [List.getElem?_map]
  have : ((List.range ps.length).zip ps)[i]? = some (i, p) := by rw [List.getElem?_zip_eq_some]; exact ⟨List.getElem?_range hl, p1⟩
  rw [this]; rfl
theorem zi_enum {elts : List Expr} {kk : Nat} {tpos : Pos} (hg : Gl X "enumerate") (hm : X.mg "enumerate" = none) (ha : PZA X CT U [a] ga) (hs : starEach [a] X.env = [(false, eval a X.env)] := by rfl) : PZI X CT U (.Tuple elts kk tpos) (.Call (.Name "enumerate" p) [a] [] pos) (iEnum ga) :=
  weakI (pi_enum hg hm ha hs) fun σ H Rr ⟨s, S, ρ, gd, en, h⟩ => ⟨s, S, ρ, gd, en, RG.step h fun ws S1 s1 H1 vs x1 g1 r1 h1 => by
    obtain ⟨ps, S2, s2, x2, g2, r2, h2⟩ := RG.frzs g1 r1 h1
    split at h2
    · rename_i xs
      obtain ⟨v, _, rfl, rv, e⟩ := r2
      have e := show _ = [] from e
      subst e
      obtain ⟨a1, us, rfl, f1, l1⟩ := rv
      exact ⟨a1, us, rfl, SqL.of (g2.exF _ _ f1), RG.here h2 g2 (enumw f1 l1)⟩
    · exact h2.elim⟩
end
end Z
end
-- part Z5
section
set_option Elab.async false
set_option linter.all false
set_option maxRecDepth 100000
set_option autoImplicit false
namespace Z
open PySem PySem.Spec PyProof.Rows L2

/-! ### comprehensions -/
theorem wipe_wipe (σ : L2.St) (vs : List Nat) : L2.wipe (L2.wipe σ vs) vs = L2.wipe σ vs := by
  apply List.ext_getElem?
  intro k
  rw [wipe_get, wipe_get, wipe_length]
  split <;> simp_all
def noEx {α : Type} (r : RE α) : RE α := match r with
  | .ex _ _ => .bad
  | r => r
def lcGo (vs : List Nat) (t : Tg) (c : FE Bool) (e : FE W) (ρ : Env) : List P → Store → RE (List P)
  | [], S => .ok [] S
  | p :: ps, S => match bindT t p (wipeE ρ vs) with
    | none => .bad
    | some ρ1 => (noEx (c ρ1 S)).bind fun b S1 => if b = true then (noEx (e ρ1 S1)).bind fun w S2 => (doFrz w S2).bind fun q S3 => (lcGo vs t c e ρ ps S3).bind fun qs S4 => .ok (q :: qs) S4
      else lcGo vs t c e ρ ps S1
def eLc (fi : FI) (vs : List Nat) (t : Tg) (c : FE Bool) (e : FE W) : FE W := fun ρ S => (fi ρ S).bind fun ps S1 => if ps.length ≤ 100000 then (lcGo vs t c e ρ ps S1).bind fun qs S2 => .ok (.val (.lst qs)) S2 else .bad
def cYes : FE Bool := fun _ S => .ok true S
def U0 : WX := fun _ _ _ _ => False
section
variable {K : PySem.W.Frag} {CT : CTb} {s : Fs} {S : Store} {H : Hp}
theorem RE.bind_bind {α β γ : Type} (r : RE α) (f : α → Store → RE β) (g : β → Store → RE γ) : (r.bind f).bind g = r.bind fun a S => (f a S).bind g := by cases r <;> rfl
theorem RE.ite_bind {α β : Type} {c : Prop} [Decidable c] (a b : RE α) (f : α → Store → RE β) : (if c then a else b).bind f = if c then a.bind f else b.bind f := by split <;> rfl
/-- run a part under another frame -/
theorem RG.runN {α β γ δ : Type} {Ra : Fs → α → γ → Prop} {Rb : Fs → β → δ → Prop} {s0 : Fs} {r : RE α} {k : α → Store → RE β} {Q : δ → Hp → Prop} {EX : Value → Option Addr → Hp → Prop} {Q1 : γ → Hp → Prop}
    (h : RG K CT Rb s ((noEx r).bind k) Q EX) (hk : ∀ a S1 s1 H1 b, r = .ok a S1 → Ext s0 s1 → Gd K CT s1 S1 H1 → Ra s1 a b → RG K CT Rb s (k a S1) Q EX → Q1 b H1) : RG K CT Ra s0 r Q1 (fun _ _ _ => False) := by
  cases r with
  | ok a S => exact fun s2 H2 b x g q => hk a S s2 H2 b rfl x g q h
  | ex x S => exact h.elim
  | bad => exact h.elim
/-- the frame with one more object -/
def Fs.fr (s : Fs) (D : Addr) (o : HO) : Fs := { s with G := upd s.G D o }
theorem Ext.unfr {s s' : Fs} {D : Addr} {o : HO} (x : Ext (s.fr D o) s') (hD : s.G D = none) (hF : s.F D = none) : Ext s { s' with G := s.G } ∧ s' = Fs.fr { s' with G := s.G } D o := by
  have e := x.g
  refine ⟨⟨rfl, x.f, x.m, fun a h1 h2 => x.new a h1 ?_⟩, ?_⟩
  · show upd s.G D o a ≠ none
    by_cases q : a = D
    · subst q; rw [upd_same]; simp
    · rw [upd_ne q]; exact h2
  · cases s'; simp only [Fs.fr] at e ⊢; rw [e]
theorem Ext.unfr2 {s s' : Fs} {D : Addr} {o : HO} (x : Ext (s.fr D o) s') (hD : s.G D = none) (hF : s.F D = none) : ∃ s2, s' = Fs.fr s2 D o ∧ Ext s s2 ∧ s2.F D = none := by
  obtain ⟨x1, e⟩ := x.unfr hD hF
  refine ⟨_, e, x1, x.new D hF (by show upd s.G D o D ≠ none; rw [upd_same]; simp)⟩
theorem RepWs.reG {G' : Hp} : ∀ {ws : List W} {vs : List V}, RepWs K CT s ws vs → RepWs K CT { s with G := G' } ws vs
  | [], _, h => h
  | .val p :: ws, _, ⟨v, vs', h1, h2, h3⟩ => ⟨v, vs', h1, h2, RepWs.reG h3⟩
  | .loc n :: ws, _, ⟨v, vs', h1, h2, h3⟩ => ⟨v, vs', h1, h2, RepWs.reG h3⟩
  | .exc :: ws, _, ⟨v, vs', h1, h2, h3⟩ => ⟨v, vs', h1, h2, RepWs.reG h3⟩
theorem RepW.reG {G' : Hp} {w : W} {v : V} (h : RepW K CT s w v) : RepW K CT { s with G := G' } w v := by
  cases w <;> exact h
theorem EnvOk.reG {G' : Hp} {ρ : Env} {σ : L2.St} (h : EnvOk K CT s ρ σ) : EnvOk K CT { s with G := G' } ρ σ := ⟨h.len, fun i w q => let ⟨v, h1, h2⟩ := h.get i w q; ⟨v, h1, h2.reG⟩⟩
theorem Gd.reG (g : Gd K CT s S H) {G' : Hp} (e : Ex G' H) (hl : ∀ (n : Nat) (c : Cell) (a : Addr), S[n]? = some c → s.m[n]? = some a → live c → G' a = none) (ht : ∀ P ∈ CT.tabs, G' P = none) : Gd K CT { s with G := G' } S H := by
  refine ⟨g.exF, e, g.len, fun n c a h1 h2 => ?_, g.inj, g.tab, g.notF, ht⟩
  have q := g.cells n c a h1 h2
  cases c with
  | lst ws => obtain ⟨q1, q2, vs, q3, q4⟩ := q; exact ⟨q1, hl n _ a h1 h2 trivial, vs, q3, q4.reG⟩
  | dct ks ws => obtain ⟨q1, q2, vs, q3, ql, q4⟩ := q; exact ⟨q1, hl n _ a h1 h2 trivial, vs, q3, ql, q4.reG⟩
  | dcu ks ws => obtain ⟨q1, q2, vs, q3, ql, q4⟩ := q; exact ⟨q1, hl n _ a h1 h2 trivial, vs, q3, ql, q4.reG⟩
  | ins c ns ws => obtain ⟨q1, q2, dx, vs, q3, ql, q4⟩ := q; exact ⟨q1, hl n _ a h1 h2 trivial, dx, vs, q3, ql, q4.reG⟩
  | frz p => exact q
theorem Gd.liveAt (g : Gd K CT s S H) {n : Nat} {c : Cell} {a : Addr} (h1 : S[n]? = some c) (h2 : s.m[n]? = some a) (hl : live c) : s.F a = none ∧ s.G a = none ∧ H a ≠ none := by
  have q := g.cells n c a h1 h2
  cases c with
  | lst ws => obtain ⟨q1, q2, vs, q3, q4⟩ := q; exact ⟨q1, q2, by rw [q3]; simp⟩
  | dct ks ws => obtain ⟨q1, q2, vs, q3, ql, q4⟩ := q; exact ⟨q1, q2, by rw [q3]; simp⟩
  | dcu ks ws => obtain ⟨q1, q2, vs, q3, ql, q4⟩ := q; exact ⟨q1, q2, by rw [q3]; simp⟩
  | ins c ns ws => obtain ⟨q1, q2, dx, vs, q3, ql, q4⟩ := q; exact ⟨q1, q2, by rw [q3]; simp⟩
  | frz p => exact hl.elim
/-- the heap changes at D, which the state does not know -/
theorem Gd.other (g : Gd K CT s S H) {D : Addr} {o : HO} (hF : s.F D = none) (hG : s.G D = none) (hl : ∀ (n : Nat) (c : Cell) (a : Addr), S[n]? = some c → s.m[n]? = some a → live c → a ≠ D) (hD : ∀ P ∈ CT.tabs, P ≠ D) : Gd K CT s S (upd H D o) := by
  refine ⟨Ex.mut g.exF hF, Ex.mut g.exG hG, g.len, fun n c a h1 h2 => ?_, g.inj, fun P hP => by
    obtain ⟨ps, h1, h2⟩ := g.tab P hP
    exact ⟨ps, by rw [upd_ne (hD P hP)]; exact h1, h2⟩, g.notF, g.notG⟩
  have q := g.cells n c a h1 h2
  cases c with
  | lst ws => obtain ⟨q1, q2, vs, q3, q4⟩ := q; exact ⟨q1, q2, vs, by rw [upd_ne (hl n _ a h1 h2 trivial)]; exact q3, q4⟩
  | dct ks ws => obtain ⟨q1, q2, vs, q3, ql, q4⟩ := q; exact ⟨q1, q2, vs, by rw [upd_ne (hl n _ a h1 h2 trivial)]; exact q3, ql, q4⟩
  | dcu ks ws => obtain ⟨q1, q2, vs, q3, ql, q4⟩ := q; exact ⟨q1, q2, vs, by rw [upd_ne (hl n _ a h1 h2 trivial)]; exact q3, ql, q4⟩
  | ins c ns ws => obtain ⟨q1, q2, dx, vs, q3, ql, q4⟩ := q; exact ⟨q1, q2, dx, vs, by rw [upd_ne (hl n _ a h1 h2 trivial)]; exact q3, ql, q4⟩
  | frz p => exact q
/-- from now on D, which is known to nobody, holds o, and no part may touch it -/
theorem Gd.setFr (g : Gd K CT s S H) {D : Addr} {o : HO} (hF : s.F D = none) (hG : s.G D = none) (hl : ∀ (n : Nat) (c : Cell) (a : Addr), S[n]? = some c → s.m[n]? = some a → live c → a ≠ D) (hD : ∀ P ∈ CT.tabs, P ≠ D) : Gd K CT (s.fr D o) S (upd H D o) :=
  (g.other (o := o) hF hG hl hD).reG (by
    intro a u e
    by_cases q : a = D
    · subst q; rw [upd_same] at e ⊢; exact e
    · rw [upd_ne q] at e ⊢; exact g.exG a u e) (fun n c a h1 h2 l => by
    rw [upd_ne (hl n c a h1 h2 l)]; exact (g.liveAt h1 h2 l).2.1) fun P hP => by
    rw [upd_ne (hD P hP)]; exact g.notG P hP
theorem Gd.frTab {D : Addr} {o : HO} (g : Gd K CT (s.fr D o) S H) : ∀ P ∈ CT.tabs, P ≠ D := fun P hP z => by
  have := g.notG P hP
  rw [z, show (s.fr D o).G D = _ from upd_same] at this
  cases this
theorem Gd.neTab (g : Gd K CT s S H) {D : Addr} (hD : H D = none) : ∀ P ∈ CT.tabs, P ≠ D := fun P hP z => tab_ne (g.tab P hP) (by rw [z]; exact hD)
theorem Gd.ofFr {D : Addr} {o : HO} (g : Gd K CT (s.fr D o) S H) (hG : s.G D = none) : Gd K CT s S H ∧ H D = some o ∧ ∀ (n : Nat) (c : Cell) (a : Addr), S[n]? = some c → s.m[n]? = some a → live c → a ≠ D := by
  have ne : ∀ (n : Nat) (c : Cell) (a : Addr), S[n]? = some c → s.m[n]? = some a → live c → a ≠ D := fun n c a h1 h2 l e => by
    subst e
    have := (g.liveAt h1 h2 l).2.1
    rw [show (s.fr a o).G a = _ from upd_same] at this
    cases this
  refine ⟨?_, g.exG _ _ upd_same, ne⟩
  have := g.reG (G' := s.G) (fun a u e => g.exG a u (by
    show upd s.G D o a = some u
    rw [upd_ne (ne_of_none e hG)]; exact e)) (fun n c a h1 h2 l => by
      have q := (g.liveAt h1 h2 l).2.1
      rw [show (s.fr D o).G a = _ from upd_ne (ne n c a h1 h2 l)] at q
      exact q) fun P hP => by
      have q := g.notG P hP
      rw [show (s.fr D o).G P = _ from upd_ne (g.frTab P hP)] at q
      exact q
  exact this
theorem Gd.adopt (g : Gd K CT s S H) {D : Addr} {o : HO} (hF : s.F D = none) (hG : s.G D = none) (hH : H D = some o) (ne : ∀ (n : Nat) (c : Cell) (a : Addr), S[n]? = some c → s.m[n]? = some a → live c → a ≠ D) (hD : ∀ P ∈ CT.tabs, P ≠ D) :
    Gd K CT { s with F := upd s.F D o } S H ∧ Ext s { s with F := upd s.F D o } := by
  have x : Ext s { s with F := upd s.F D o } := ⟨rfl, Ex.new hF, fun _ _ h => h, fun b h1 h2 => by
    have : b ≠ D := fun e => h2 (by rw [e]; exact hG)
    show upd s.F D o b = none
    rw [upd_ne this]; exact h1⟩
  refine ⟨⟨fun a u e => ?_, g.exG, g.len, fun n c a h1 h2 => ?_, g.inj, g.tab, fun P hP => by show upd s.F D o P = none; rw [upd_ne (hD P hP)]; exact g.notF P hP, g.notG⟩, x⟩
  · have e' : upd s.F D o a = some u := e
    by_cases q : a = D
    · subst q; rw [upd_same] at e'; cases e'; exact hH
    · rw [upd_ne q] at e'; exact g.exF a u e'
  · have q := g.cells n c a h1 h2
    cases c with
    | lst ws => obtain ⟨q1, q2, vs, q3, q4⟩ := q; exact ⟨by show upd s.F D o a = none; rw [upd_ne (ne n _ a h1 h2 trivial)]; exact q1, q2, vs, q3, q4.mono x⟩
    | dct ks ws => obtain ⟨q1, q2, vs, q3, ql, q4⟩ := q; exact ⟨by show upd s.F D o a = none; rw [upd_ne (ne n _ a h1 h2 trivial)]; exact q1, q2, vs, q3, ql, q4.mono x⟩
    | dcu ks ws => obtain ⟨q1, q2, vs, q3, ql, q4⟩ := q; exact ⟨by show upd s.F D o a = none; rw [upd_ne (ne n _ a h1 h2 trivial)]; exact q1, q2, vs, q3, ql, q4.mono x⟩
    | ins c ns ws => obtain ⟨q1, q2, dx, vs, q3, ql, q4⟩ := q; exact ⟨by show upd s.F D o a = none; rw [upd_ne (ne n _ a h1 h2 trivial)]; exact q1, q2, dx, vs, q3, ql, q4.mono x⟩
    | frz p => exact RepP.mono x.f q
theorem lc_turn {ps : List P} {p : P} {i : Nat} (h : ps[i]? = some p) : ps.drop i = p :: ps.drop (i + 1) := by
  obtain ⟨hl, e⟩ := List.getElem?_eq_some_iff.mp h
  rw [List.drop_eq_getElem_cons hl, e]
/-- the state of a comprehension's block: the new list at D -/
def LcSt (K : PySem.W.Frag) (CT : CTb) (s1 : Fs) (D : Addr) (vs : List Nat) (t : Tg) (c : FE Bool) (e : FE W) (ρ : Env) (ps : List P) (Q : VK) (EX : Value → Option Addr → Hp → Prop) (i : Nat) (H : Hp) : Prop :=
  ∃ (s : Fs) (S : Store) (acc : List P) (vacc : List V), Ext s1 s ∧ Gd K CT (s.fr D (.lst vacc)) S H ∧ s.F D = none ∧ RepL K CT s.F acc vacc ∧ acc.length ≤ i ∧
    RG K CT (RepW K CT) s ((lcGo vs t c e ρ (ps.drop i) S).bind fun qs S2 => .ok (.val (.lst (acc ++ qs))) S2) Q EX
theorem lc_start {s1 : Fs} {D : Addr} {vs : List Nat} {t : Tg} {c : FE Bool} {e : FE W} {ρ : Env} {ps : List P} {Q : VK} {EX : Value → Option Addr → Hp → Prop} {S1 : Store} {H1 : Hp} (g : Gd K CT s1 S1 H1) (hD : H1 D = none)
    (h : RG K CT (RepW K CT) s1 ((lcGo vs t c e ρ ps S1).bind fun qs S2 => .ok (.val (.lst qs)) S2) Q EX) : LcSt K CT s1 D vs t c e ρ ps Q EX 0 (upd H1 D (.lst [])) :=
  ⟨s1, S1, [], [], Ext.refl _, g.setFr (g.exF.back hD) (g.exG.back hD) (fun n c a h1 h2 l z => (g.liveAt h1 h2 l).2.2 (by rw [z]; exact hD)) (g.neTab hD), g.exF.back hD, rfl, Nat.le_refl _, h⟩
theorem lc_end {s1 : Fs} {D : Addr} {vs : List Nat} {t : Tg} {c : FE Bool} {e : FE W} {ρ : Env} {ps : List P} {Q : VK} {EX : Value → Option Addr → Hp → Prop} {H : Hp} {H1 : Hp} {S1 : Store} (g1 : Gd K CT s1 S1 H1) (hD : H1 D = none)
    (h : LcSt K CT s1 D vs t c e ρ ps Q EX ps.length H) : Q (.ref D) H := by
  obtain ⟨s, S, acc, vacc, x, g, hF, r, _, h⟩ := h
  rw [List.drop_length] at h
  have hG : s.G D = none := by rw [← x.g]; exact g1.exG.back hD
  obtain ⟨g', hH, ne⟩ := g.ofFr hG
  have h' : RG K CT (RepW K CT) s (.ok (.val (.lst (acc ++ []))) S) Q EX := h
  rw [List.append_nil] at h'
  obtain ⟨g2, x2⟩ := g'.adopt hF hG hH ne g.frTab
  exact h' _ _ _ x2 g2 ⟨D, vacc, rfl, upd_same, r.mono x2.f⟩
end
section
variable {X : Cx} {CT : CTb} {U : WX} {elt tg iter : Expr} {ifs : List Expr} {scope : Scope} {own : List (Str × Nat)} {pos : Pos} {fi : FI} {t : Tg} {c : FE Bool} {e : FE W}
theorem lc_go {s1 : Fs} {S1 : Store} {H1 : Hp} {D : Addr} {ρ : Env} {σ : L2.St} {ps : List P} {J : It} {Q : VK} {vs : List Nat} {EX : Value → Option Addr → Hp → Prop} (g1 : Gd X.K CT s1 S1 H1) (en : EnvOk X.K CT s1 ρ σ) (hD : H1 D = none) (hsz : ps.length ≤ 100000) (hsl : ∀ i ∈ slots t, i ∈ vs) (w : WalkP X.K CT s1.F ps J)
    (h : RG X.K CT (RepW X.K CT) s1 ((lcGo vs t c e ρ ps S1).bind fun qs S2 => .ok (.val (.lst qs)) S2) Q EX) :
    ∃ W : Nat → Nat → Hp → Prop, (∃ m, W 0 m (upd H1 D (.lst []))) ∧ ∀ i m H, W i m H →
      (J.stop i H ∧ Q (.ref D) H) ∨ (J.go i H ∧ ∃ Nx : Hp → Prop, (∀ H', Nx H' → ∃ m', m' < m ∧ W (i + 1) m' H') ∧ ∀ x H', J.yld i H x H' → tgG X.K t x (L2.wipe σ vs) H' fun σ2 H2 => L2.wipe σ2 vs = L2.wipe σ vs ∧ canT X.K CT U0 c σ2 H2 fun b H3 =>
        if b = true then canE X.K CT U0 e σ2 H3 fun y H4 => ∃ acc, H4 D = some (.lst acc) ∧ acc.length < sizeLine ∧ Nx (upd H4 D (.lst (acc ++ [y]))) else Nx H3) := by
  obtain ⟨G, Y, wk, hG, hY⟩ := w
  refine lc_it wk (Qd := fun H => Q (.ref D) H) (fun i H => LcSt X.K CT s1 D vs t c e ρ ps Q EX i H) (lc_start g1 hD h) (fun i H hi ⟨s, S, acc, vacc, x, g, _⟩ => hG H (x.f.trans g.exF)) ?_ (fun H q => lc_end g1 hD q)
  rintro i x H H' hi ⟨s, S, acc, vacc, x0, g, hF, r, hl, h⟩ y
  have hGD : s.G D = none := by rw [← x0.g]; exact g1.exG.back hD
  obtain ⟨p, ep, yo⟩ := hY i H x H' hi (x0.f.trans g.exF) y
  rw [lc_turn ep] at h
  -- the item
  obtain ⟨s2', x2', g2', rp'⟩ : ∃ s', Ext (s.fr D (.lst vacc)) s' ∧ Gd X.K CT s' S H' ∧ RepP X.K CT s'.F p x := by
    rcases yo with ⟨rfl, rp⟩ | ⟨T, o, hT, rfl, rp⟩
    · exact ⟨_, Ext.refl _, g, rp.mono x0.f⟩
    · obtain ⟨g', x'⟩ := g.newF hT o
      exact ⟨_, x', g', rp _ (x0.f.trans x'.f) upd_same⟩
  obtain ⟨s2, rfl, x2, hF2⟩ := x2'.unfr2 hGD hF
  have h := RG.ext x2 h
  unfold lcGo at h
  cases eb : bindT t p (wipeE ρ vs) with
  | none => rw [eb] at h; exact h.elim
  | some ρ1 =>
    rw [eb] at h
    have en2 : EnvOk X.K CT (s2.fr D (.lst vacc)) (wipeE ρ vs) (L2.wipe σ vs) := EnvOk.reG (((en.mono x0).mono x2).wipe vs)
    refine bind_ok t (s := s2.fr D (.lst vacc)) g2'.exF rp' en2 eb fun σ2 en3 hw => ⟨(hw vs hsl).trans (wipe_wipe σ vs), ?_⟩
    simp only [RE.bind_bind] at h
    refine ⟨_, S, ρ1, g2', en3, RG.runN h fun b S3 s3' H3 b' er x3 g3 rb h3 => ?_⟩
    have rb : b = b' := rb
    subst rb
    obtain ⟨s3, rfl, x3', hF3⟩ := x3.unfr2 (by rw [← x2.g]; exact hGD) hF2
    have h3 := RG.ext x3' h3
    have ee : RepL X.K CT s3.F acc vacc := r.mono (x2.f.trans x3'.f)
    cases b with
    | false =>
      exact ⟨s3, S3, acc, vacc, (x0.trans x2).trans x3', g3, hF3, ee, Nat.le_succ_of_le hl, by simpa using h3⟩
    | true =>
      simp only [if_true, RE.bind_bind] at h3
      refine ⟨_, S3, ρ1, g3, en3.mono x3, RG.runN h3 fun w S4 s4' H4 yv er4 x4 g4 rw h4 => ?_⟩
      obtain ⟨s4, rfl, x4', hF4⟩ := x4.unfr2 (by rw [← x3'.g, ← x2.g]; exact hGD) hF3
      have h4 := RG.ext x4' h4
      have hG4 : s4.G D = none := by rw [← x4'.g, ← x3'.g, ← x2.g]; exact hGD
      cases ef : frz S4 w with
      | none => unfold doFrz at h4; rw [ef] at h4; exact h4.elim
      | some q =>
        obtain ⟨q, S5⟩ := q
        unfold doFrz at h4
        rw [ef] at h4
        obtain ⟨s5', x5, g5, r5⟩ := frz_ok g4 rw ef
        obtain ⟨s5, rfl, x5', hF5⟩ := x5.unfr2 hG4 hF4
        have h5 := RG.ext x5' h4
        obtain ⟨g5', hD5, ne5⟩ := g5.ofFr (by rw [← x5'.g]; exact hG4)
        have le := (ee.mono (x4'.f.trans x5'.f))
        refine ⟨vacc, hD5, by rw [ee.length]; exact sz5' (by omega), s5, S5, acc ++ [q], vacc ++ [yv], (((x0.trans x2).trans x3').trans x4').trans x5', ?_, hF5, le.append ⟨yv, [], rfl, r5, rfl⟩, by simp; omega, ?_⟩
        · exact g5'.setFr hF5 (by rw [← x5'.g]; exact hG4) ne5 g5.frTab
        · simp only [RE.bind] at h5 ⊢
          simp only [List.append_assoc, List.singleton_append]
          exact h5
theorem pz_lc (hc : X.calm = true) (hN : X.N.Nodup) (hi : PZI X CT U tg iter fi) (ok : BlkOk X.N X.env.scope scope own)
    (hg : ∀ (s : Shared) (H : Hp) (C : Addr) (cl : List (Str × Addr)) (fp : List Addr), PG (X.blk s H scope (compEnvC scope cl C X.env) fp) tg (tgG X.K t)) (ht : ∀ (s : Shared) (H : Hp) (C : Addr) (cl : List (Str × Addr)) (fp : List Addr), PTs (X.blk s H scope (compEnvC scope cl C X.env) fp) ifs (canT X.K CT U0 c))
    (he : ∀ (s : Shared) (H : Hp) (C : Addr) (cl : List (Str × Addr)) (fp : List Addr), PE (X.blk s H scope (compEnvC scope cl C X.env) fp) elt (canE X.K CT U0 e)) (hsl : ∀ i ∈ slots t, i ∈ own.map (·.2)) (hs : ∀ x, foldedSetIterable iter X.env x = pure x := by intro _; rfl) :
    PZ X CT U (.ListComp elt [⟨tg, iter, ifs, 0⟩] scope pos) (eLc fi (own.map (·.2)) t c e) := weakE (pe_lc hc hN hi ok hg ht he hs) fun σ H Q ⟨s, S, ρ, gd, en, h⟩ =>
  ⟨s, S, ρ, gd, en, RG.step h fun ps S1 s1 H1 J x1 g1 w1 h1 D hD => by
    split at h1
    · rename_i hsz
      exact lc_go g1 (en.mono x1) hD hsz hsl w1 h1
    · exact h1.elim⟩
theorem zts_nil : PTs X [] (canT X.K CT U0 cYes) := ⟨fun pins s σ H Q I ⟨s0, S, ρ, gd, en, h⟩ => pts_nil.run pins s σ H Q I (RG.here h gd rfl)⟩
theorem zts_one {cnd : Expr} (h : PZT X CT U0 cnd c) : PTs X [cnd] (canT X.K CT U0 c) := pts_one h
end
end Z
end
-- part Z6
section
set_option Elab.async false
set_option linter.all false
set_option maxRecDepth 100000
set_option autoImplicit false
namespace Z
open PySem PySem.Spec PyProof.Rows L2

/-! ### statements -/
def RS (K : PySem.W.Frag) (CT : CTb) (s : Fs) (r : R) (D : Ends) (U : WX) : Prop := match r with
  | .nx ρ' S' => ∀ s' H' σ', Ext s s' → Gd K CT s' S' H' → EnvOk K CT s' ρ' σ' → D.nx σ' H'
  | .bk ρ' S' => ∀ s' H' σ', Ext s s' → Gd K CT s' S' H' → EnvOk K CT s' ρ' σ' → D.bk σ' H'
  | .ct ρ' S' => ∀ s' H' σ', Ext s s' → Gd K CT s' S' H' → EnvOk K CT s' ρ' σ' → D.ct σ' H'
  | .rt w S' => ∀ s' H' v, Ext s s' → Gd K CT s' S' H' → RepW K CT s' w v → D.rt v H'
  | .ex x ρ' S' => ∀ s' H' σ' c dd, Ext s s' → Gd K CT s' S' H' → EnvOk K CT s' ρ' σ' → RepX K CT s'.F x c dd → U c dd σ' H'
  | .bad => False
def canS (K : PySem.W.Frag) (CT : CTb) (U : WX) (f : FS) : TS := fun D σ H => ∃ s S ρ, Gd K CT s S H ∧ EnvOk K CT s ρ σ ∧ RS K CT s (f ρ S) D U
abbrev PZS (X : Cx) (CT : CTb) (U : WX) (st : Stmt) (f : FS) : Prop := PS X st (canS X.K CT U f)
abbrev PZSs (X : Cx) (CT : CTb) (U : WX) (st : List Stmt) (f : FS) : Prop := PSs X st (canS X.K CT U f)
theorem weakS {X : Cx} {e : Stmt} {t t' : TS} (h : PS X e t) (w : ∀ D σ H, t' D σ H → t D σ H) : PS X e t' := ⟨fun pins s σ H D I q => h.run pins s σ H D I (w D σ H q)⟩
theorem weakSs {X : Cx} {e : List Stmt} {t t' : TS} (h : PSs X e t) (w : ∀ D σ H, t' D σ H → t D σ H) : PSs X e t' := ⟨fun pins s σ H D I q => h.run pins s σ H D I (w D σ H q)⟩
def sSeq (f g : FS) : FS := fun ρ S => match f ρ S with
  | .nx ρ' S' => g ρ' S'
  | r => r
/-- an expression's result, then a statement's -/
def RE.toR {α : Type} (r : RE α) (ρ : Env) (k : α → Store → R) : R := match r with
  | .ok a S => k a S
  | .ex x S => .ex x ρ S
  | .bad => .bad
def sSkip : FS := fun ρ S => .nx ρ S
def sAsg (i : Nat) (f : FE W) : FS := fun ρ S => (f ρ S).toR ρ fun w S' => .nx (ρ.set i (some w)) S'
/-- targets of any form: the value as data -/
def sAsgT (t : Tg) (f : FE W) : FS := fun ρ S => (f ρ S).toR ρ fun w S' => (doFrz w S').toR ρ fun p S2 => match bindT t p ρ with
  | some ρ' => .nx ρ' S2
  | none => .bad
def sExpr (f : FE W) : FS := fun ρ S => (f ρ S).toR ρ fun _ S' => .nx ρ S'
def sRet (f : FE W) : FS := fun ρ S => (f ρ S).toR ρ fun w S' => .rt w S'
def sIf (c : FE Bool) (f g : FS) : FS := fun ρ S => (c ρ S).toR ρ fun b S' => if b = true then f ρ S' else g ρ S'
section
variable {K : PySem.W.Frag} {CT : CTb} {s s' : Fs} {S : Store} {H : Hp} {U : WX}
theorem RS.ext {r : R} {D : Ends} (e : Ext s s') (h : RS K CT s r D U) : RS K CT s' r D U := by
  cases r with
  | nx ρ' S' => exact fun s2 H2 σ2 x => h s2 H2 σ2 (e.trans x)
  | bk ρ' S' => exact fun s2 H2 σ2 x => h s2 H2 σ2 (e.trans x)
  | ct ρ' S' => exact fun s2 H2 σ2 x => h s2 H2 σ2 (e.trans x)
  | rt ρ' S' => exact fun s2 H2 σ2 x => h s2 H2 σ2 (e.trans x)
  | ex x ρ' S' => exact fun s2 H2 σ2 c dd x => h s2 H2 σ2 c dd (e.trans x)
  | bad => exact h
theorem RS.here {ρ : Env} {σ : L2.St} {D : Ends} (h : RS K CT s (.nx ρ S) D U) (g : Gd K CT s S H) (en : EnvOk K CT s ρ σ) : D.nx σ H := h s H σ (Ext.refl s) g en
/-- the parts of a statement, an expression first -/
theorem RS.step {α γ : Type} {Ra : Fs → α → γ → Prop} {r : RE α} {ρ : Env} {σ : L2.St} {k : α → Store → R} {D : Ends} {Q : γ → Hp → Prop} (h : RS K CT s (r.toR ρ k) D U) (en : EnvOk K CT s ρ σ)
    (hk : ∀ a S1 s1 H1 b, Ext s s1 → Gd K CT s1 S1 H1 → Ra s1 a b → RS K CT s1 (k a S1) D U → Q b H1) : RG K CT Ra s r Q (fun c d H' => U c d σ H') := by
  cases r with
  | ok a S => exact fun s2 H2 b x g q => hk a S s2 H2 b x g q (RS.ext x h)
  | ex x S => exact fun s2 H2 c dd x g q => h s2 H2 σ c dd x g (en.mono x) q
  | bad => exact h
theorem seq_can {f g : FS} {D : Ends} {σ : L2.St} (h : canS K CT U (sSeq f g) D σ H) : canS K CT U f { D with nx := canS K CT U g D } σ H := by
  obtain ⟨s, S, ρ, gd, en, h⟩ := h
  refine ⟨s, S, ρ, gd, en, ?_⟩
  unfold sSeq at h
  cases er : f ρ S with
  | nx ρ' S' => rw [er] at h; exact fun s' H' σ' x g' e' => ⟨s', S', ρ', g', e', RS.ext x h⟩
  | bk ρ' S' => rw [er] at h; exact h
  | ct ρ' S' => rw [er] at h; exact h
  | rt ρ' S' => rw [er] at h; exact h
  | ex x ρ' S' => rw [er] at h; exact h
  | bad => rw [er] at h; exact h
end
section
variable {X : Cx} {CT : CTb} {U : WX} {st : Stmt} {sts : List Stmt} {f g : FS} {e : Expr} {fe : FE W} {pos : Pos} {c : Expr} {fc : FE Bool}
theorem zss_nil : PZSs X CT U [] sSkip := weakSs pss_nil fun D σ H ⟨s, S, ρ, gd, en, h⟩ => RS.here h gd en
theorem zss_cons (h1 : PZS X CT U st f) (h2 : PZSs X CT U sts g) : PZSs X CT U (st :: sts) (sSeq f g) := weakSs (pss_cons h1 h2) fun D σ H h => seq_can h
theorem zss_one (h1 : PZS X CT U st f) : PZSs X CT U [st] f := pss_one h1
theorem zs_pass : PZS X CT U (.Pass pos) sSkip := weakS ps_pass fun D σ H ⟨s, S, ρ, gd, en, h⟩ => RS.here h gd en
theorem zs_doc {x : Str} {j : Nat} {pos' : Pos} : PZS X CT U (.Expr (.Constant (.str x) j pos) pos') sSkip := weakS ps_doc fun D σ H ⟨s, S, ρ, gd, en, h⟩ => RS.here h gd en
def sBrk : FS := fun ρ S => .bk ρ S
def sCnt : FS := fun ρ S => .ct ρ S
theorem zs_break : PZS X CT U (.Break pos) sBrk := weakS ps_break fun D σ H ⟨s, S, ρ, gd, en, h⟩ => h s H σ (Ext.refl s) gd en
theorem zs_continue : PZS X CT U (.Continue pos) sCnt := weakS ps_continue fun D σ H ⟨s, S, ρ, gd, en, h⟩ => h s H σ (Ext.refl s) gd en
theorem zs_expr (he : PZ X CT U e fe) (hs : swapsWith e none pos.line X.env = pure false := by rfl) : PZS X CT U (.Expr e pos) (sExpr fe) := weakS (ps_expr he hs) fun D σ H ⟨s, S, ρ, gd, en, h⟩ =>
  ⟨s, S, ρ, gd, en, RS.step h en fun w S1 s1 H1 v x1 g1 r1 h1 => RS.here h1 g1 (en.mono x1)⟩
theorem zs_ret (he : PZ X CT U e fe) : PZS X CT U (.Return (some e) pos) (sRet fe) := weakS (ps_ret he) fun D σ H ⟨s, S, ρ, gd, en, h⟩ =>
  ⟨s, S, ρ, gd, en, RS.step h en fun w S1 s1 H1 v x1 g1 r1 h1 => h1 s1 H1 v (Ext.refl _) g1 r1⟩
def sRetN : FS := fun _ S => .rt (.val .non) S
theorem zs_retN : PZS X CT U (.Return none pos) sRetN := weakS ps_retN fun D σ H ⟨s, S, ρ, gd, en, h⟩ => h s H _ (Ext.refl s) gd rfl
theorem asg_can {i : Nat} {D : Ends} {σ : L2.St} {H : Hp} (h : canS X.K CT U (sAsg i fe) D σ H) : tAsg (canE X.K CT U fe) (gName i) D σ H := by
  obtain ⟨s, S, ρ, gd, en, h⟩ := h
  exact ⟨s, S, ρ, gd, en, RS.step h en fun w S1 s1 H1 v x1 g1 r1 h1 => RS.here h1 g1 ((en.mono x1).set r1)⟩
theorem zs_set (i : Nat) {x : Str} {pos' : Pos} (he : PZ X CT U e fe) (hN : X.N.Nodup) (hi : X.N[i]? = some x := by rfl) (hx : Loc X.env.scope x := by first | exact Or.inl rfl | exact Or.inr rfl) (hs : swapsWith e (some (.Name x pos')) pos.line X.env = pure false := by rfl) (hf : X.fn x = true ∨ X.env.scope.names.lookup x = some .local := by first | exact .inl rfl | exact .inr rfl | assumption) :
    PZS X CT U (.Assign [.Name x pos'] e pos) (sAsg i fe) := weakS (ps_set hN hi hx he hs hf) fun D σ H h => asg_can h
theorem zs_asgT {tg : Expr} {t : Tg} (he : PZ X CT U e fe) (hg : PG X tg (tgG X.K t)) (hs : swapsWithSole [tg] e pos.line X.env = pure false := by rfl) (hw : swappedStores [tg] e X.env = pure none := by rfl)
    (h1 : (assignEach [tg] X.env).map (·.2) = [assign tg X.env] := by rfl) : PZS X CT U (.Assign [tg] e pos) (sAsgT t fe) := weakS (ps_asg he hg hs hw h1) fun D σ H ⟨s, S, ρ, gd, en, h⟩ =>
  ⟨s, S, ρ, gd, en, RS.step h en fun w S1 s1 H1 v x1 g1 r1 h1 => by
    unfold doFrz at h1
    cases ef : frz S1 w with
    | none => rw [ef] at h1; exact h1.elim
    | some q =>
      obtain ⟨p, S2⟩ := q
      rw [ef] at h1
      obtain ⟨s2, x2, g2, r2⟩ := frz_ok g1 r1 ef
      have h2 := RS.ext x2 h1
      simp only [RE.toR] at h2
      cases eb : bindT t p ρ with
      | none => rw [eb] at h2; exact h2.elim
      | some ρ' =>
        rw [eb] at h2
        exact bind_ok t g2.exF r2 ((en.mono x1).mono x2) eb fun σ' en' _ => RS.here h2 g2 en'⟩
theorem zs_if {a b : List Stmt} (hc : PZT X CT U c fc) (ha : PZSs X CT U a f) (hb : PZSs X CT U b g) : PZS X CT U (.If c a b pos) (sIf fc f g) := weakS (ps_if hc ha hb) fun D σ H ⟨s, S, ρ, gd, en, h⟩ =>
  ⟨s, S, ρ, gd, en, RS.step h en fun k S1 s1 H1 v x1 g1 r1 h1 => by
    have r1 : k = v := r1
    subst r1
    cases k with
    | true => exact ⟨s1, S1, ρ, g1, en.mono x1, h1⟩
    | false => exact ⟨s1, S1, ρ, g1, en.mono x1, h1⟩⟩
/-! for -/
def forGo (t : Tg) (body : FS) : List P → Env → Store → R
  | [], ρ, S => .nx ρ S
  | p :: ps, ρ, S => match bindT t p ρ with
    | none => .bad
    | some ρ1 => match body ρ1 S with
      | .nx ρ2 S2 => forGo t body ps ρ2 S2
      | .ct ρ2 S2 => forGo t body ps ρ2 S2
      | .bk ρ2 S2 => .nx ρ2 S2
      | r => r
def sFor (fi : FI) (t : Tg) (body : FS) : FS := fun ρ S => (fi ρ S).toR ρ fun ps S1 => forGo t body ps ρ S1
def LoopSt (K : PySem.W.Frag) (CT : CTb) (U : WX) (s1 : Fs) (t : Tg) (body : FS) (ps : List P) (D : Ends) (i : Nat) (σ : L2.St) (H : Hp) : Prop :=
  ∃ (s : Fs) (S : Store) (ρ : Env), Ext s1 s ∧ Gd K CT s S H ∧ EnvOk K CT s ρ σ ∧ RS K CT s (forGo t body (ps.drop i) ρ S) D U
theorem for_can {fi : FI} {t : Tg} {D : Ends} {σ : L2.St} {H : Hp} (h : canS X.K CT U (sFor fi t f) D σ H) : tFor (canI X.K CT U fi) (tgG X.K t) (canS X.K CT U f) D σ H := by
  obtain ⟨s, S, ρ, gd, en, h⟩ := h
  refine ⟨s, S, ρ, gd, en, RS.step h en fun ps S1 s1 H1 J x1 g1 w1 h1 => ?_⟩
  obtain ⟨G, Y, wk, hG, hY⟩ := w1
  refine for_it wk (LoopSt X.K CT U s1 t f ps D) ⟨s1, S1, ρ, Ext.refl _, g1, en.mono x1, h1⟩ (fun i σ H hi ⟨s, S, ρ, x, g, _, _⟩ => hG H (x.f.trans g.exF)) ?_ ?_
  · rintro i x σ2 H2 H3 hi ⟨s2, S2, ρ2, x2, g2, en2, h2⟩ y
    obtain ⟨p, ep, yo⟩ := hY i H2 x H3 hi (x2.f.trans g2.exF) y
    rw [lc_turn ep] at h2
    obtain ⟨s3, x3, g3, rp⟩ : ∃ s3, Ext s2 s3 ∧ Gd X.K CT s3 S2 H3 ∧ RepP X.K CT s3.F p x := by
      rcases yo with ⟨rfl, rp⟩ | ⟨T, o, hT, rfl, rp⟩
      · exact ⟨s2, Ext.refl _, g2, rp.mono x2.f⟩
      · obtain ⟨g', x'⟩ := g2.newF hT o
        exact ⟨_, x', g', rp _ (x2.f.trans x'.f) upd_same⟩
    have h3 := RS.ext x3 h2
    unfold forGo at h3
    cases eb : bindT t p ρ2 with
    | none => rw [eb] at h3; exact h3.elim
    | some ρ3 =>
      rw [eb] at h3
      simp only at h3
      refine bind_ok t g3.exF rp (en2.mono x3) eb fun σ3 en3 _ => ⟨s3, S2, ρ3, g3, en3, ?_⟩
      cases er : f ρ3 S2 with
      | nx ρ4 S4 => rw [er] at h3; exact fun s4 H4 σ4 x4 g4 en4 => ⟨s4, S4, ρ4, (x2.trans x3).trans x4, g4, en4, RS.ext x4 h3⟩
      | ct ρ4 S4 => rw [er] at h3; exact fun s4 H4 σ4 x4 g4 en4 => ⟨s4, S4, ρ4, (x2.trans x3).trans x4, g4, en4, RS.ext x4 h3⟩
      | bk ρ4 S4 => rw [er] at h3; exact h3
      | rt ρ4 S4 => rw [er] at h3; exact h3
      | ex x ρ4 S4 => rw [er] at h3; exact h3
      | bad => rw [er] at h3; exact h3
  · rintro σ2 H2 ⟨s2, S2, ρ2, x2, g2, en2, h2⟩
    rw [List.drop_length] at h2
    exact RS.here h2 g2 en2
theorem zs_for {tg iter : Expr} {body : List Stmt} {fi : FI} {t : Tg} (hp : PassesOwn (model X.prog X.w) X.A X.env X.xe) (hc : X.calm = true) (hi : PZI X CT U tg iter fi) (hg : PG X tg (tgG X.K t)) (hb : PZSs X CT U body f)
    (hs : ∀ x, foldedSetIterable iter X.env x = pure x := by intro _; rfl) : PZS X CT U (.For tg iter body [] pos) (sFor fi t f) := weakS (ps_for hp hc hi hg hb hs) fun D σ H h => for_can h
/-! while -/
def whileGo (c : FE Bool) (body : FS) : Nat → Env → Store → Option R
  | 0, _, _ => none
  | n + 1, ρ, S => match c ρ S with
    | .ok true S1 => match body ρ S1 with
      | .nx ρ2 S2 => whileGo c body n ρ2 S2
      | .ct ρ2 S2 => whileGo c body n ρ2 S2
      | .bk ρ2 S2 => some (.nx ρ2 S2)
      | r => some r
    | .ok false S1 => some (.nx ρ S1)
    | .ex x S1 => some (.ex x ρ S1)
    | .bad => some .bad
open Classical in
noncomputable def sWhile (c : FE Bool) (body : FS) : FS := fun ρ S => if h : ∃ n r, whileGo c body n ρ S = some r then h.choose_spec.choose else .bad
theorem whileGo_mono {c : FE Bool} {body : FS} : ∀ {n : Nat} {ρ : Env} {S : Store} {r : R}, whileGo c body n ρ S = some r → whileGo c body (n + 1) ρ S = some r
  | 0, _, _, _, h => by cases h
  | n + 1, ρ, S, r, h => by
    unfold whileGo at h ⊢
    split at h <;> try exact h
    split at h <;> first | exact h | exact whileGo_mono h
theorem whileGo_le {c : FE Bool} {body : FS} {n : Nat} {ρ : Env} {S : Store} {r : R} (h : whileGo c body n ρ S = some r) : ∀ k, whileGo c body (n + k) ρ S = some r
  | 0 => h
  | k + 1 => whileGo_mono (whileGo_le h k)
theorem sWhile_eq {c : FE Bool} {body : FS} {n : Nat} {ρ : Env} {S : Store} {r : R} (h : whileGo c body n ρ S = some r) : sWhile c body ρ S = r := by
  have ex : ∃ n r, whileGo c body n ρ S = some r := ⟨n, r, h⟩
  unfold sWhile
  rw [dif_pos ex]
  have h2 := ex.choose_spec.choose_spec
  have a := whileGo_le h (ex.choose)
  have b := whileGo_le h2 n
  rw [Nat.add_comm] at b
  rw [a] at b
  exact (Option.some.inj b).symm
theorem while_can {fc : FE Bool} {D : Ends} {σ : L2.St} {H : Hp} (h : canS X.K CT U (sWhile fc f) D σ H) : tWhile (canT X.K CT U fc) (canS X.K CT U f) D σ H := by
  obtain ⟨s, S, ρ, gd, en, h⟩ := h
  by_cases ex : ∃ n r, whileGo fc f n ρ S = some r
  · obtain ⟨n, r, e⟩ := ex
    rw [sWhile_eq e] at h
    refine ⟨fun m σ H => ∃ s S ρ r, Gd X.K CT s S H ∧ EnvOk X.K CT s ρ σ ∧ whileGo fc f m ρ S = some r ∧ RS X.K CT s r D U, ⟨n, s, S, ρ, r, gd, en, e, h⟩, ?_⟩
    rintro m σ H ⟨s, S, ρ, r, gd, en, e, h⟩
    cases m with
    | zero => cases e
    | succ m =>
      refine ⟨s, S, ρ, gd, en, ?_⟩
      unfold whileGo at e
      cases ec : fc ρ S with
      | bad => rw [ec] at e; cases e; exact h.elim
      | ex x S1 => rw [ec] at e; cases e; exact fun s2 H2 c dd x g q => h s2 H2 σ c dd x g (en.mono x) q
      | ok b S1 =>
        rw [ec] at e
        intro s1 H1 b' x1 g1 rb
        have rb : b = b' := rb
        subst rb
        cases b with
        | false => cases e; exact RS.here (RS.ext x1 h) g1 (en.mono x1)
        | true =>
          simp only at e
          refine ⟨fun σ' H' => ∃ s S ρ, Gd X.K CT s S H' ∧ EnvOk X.K CT s ρ σ' ∧ whileGo fc f m ρ S = some r ∧ RS X.K CT s r D U, fun σ' H' ⟨s, S, ρ, g, en, e, h⟩ => ⟨m, Nat.lt_succ_self m, s, S, ρ, r, g, en, e, h⟩, ?_⟩
          refine ⟨s1, S1, ρ, g1, en.mono x1, ?_⟩
          have h1 := RS.ext x1 h
          cases er : f ρ S1 with
          | nx ρ2 S2 => rw [er] at e; exact fun s2 H2 σ2 x2 g2 en2 => ⟨s2, S2, ρ2, g2, en2, e, RS.ext x2 h1⟩
          | ct ρ2 S2 => rw [er] at e; exact fun s2 H2 σ2 x2 g2 en2 => ⟨s2, S2, ρ2, g2, en2, e, RS.ext x2 h1⟩
          | bk ρ2 S2 => rw [er] at e; cases e; exact h1
          | rt w S2 => rw [er] at e; cases e; exact h1
          | ex x ρ2 S2 => rw [er] at e; cases e; exact h1
          | bad => rw [er] at e; cases e; exact h1
  · unfold sWhile at h
    rw [dif_neg ex] at h
    exact h.elim
theorem zs_while {body : List Stmt} (hp : PassesOwn (model X.prog X.w) X.A X.env X.xe) (hc : PZT X CT U c fc) (hb : PZSs X CT U body f) : PZS X CT U (.While c body [] pos) (sWhile fc f) := weakS (ps_while hp hc hb) fun D σ H h => while_can h
/-! x += e, x -= e -/
def sAug (i : Nat) (op : O2) (fe : FE W) : FS := fun ρ S => match ρ[i]? with
  | some (some a) => (fe ρ S).toR ρ fun b S1 => (op a b S1).toR ρ fun w S2 => .nx (ρ.set i (some w)) S2
  | _ => .bad
def IpZ (K : PySem.W.Frag) (CT : CTb) (r : TIp) (op : O2) : Prop := ∀ (s : Fs) (S : Store) (H : Hp) (a b : W) (x y : V) (Q : VK) (EX : Value → Option Addr → Hp → Prop),
  Gd K CT s S H → RepW K CT s a x → RepW K CT s b y → RG K CT (RepW K CT) s (op a b S) Q EX → r x y H Q
theorem zs_aug (i : Nat) {x : Str} {op : Operator} {ti : TIp} {g : O2} {pos' : Pos} (he : PZ X CT U e fe) (ho : PIp X op ti) (hz : IpZ X.K CT ti g) (hN : X.N.Nodup) (hi : X.N[i]? = some x := by rfl) (hx : Loc X.env.scope x := by first | exact Or.inl rfl | exact Or.inr rfl) (hf : X.fn x = true ∨ X.env.scope.names.lookup x = some .local := by first | exact .inl rfl | exact .inr rfl | assumption) :
    PZS X CT U (.AugAssign (.Name x pos') op e pos) (sAug i g fe) := weakS (ps_aug hN hi hx he ho hf) fun D σ H ⟨s, S, ρ, gd, en, h⟩ => by
  unfold sAug at h
  cases ei : ρ[i]? with
  | none => rw [ei] at h; exact h.elim
  | some o =>
    cases o with
    | none => rw [ei] at h; exact h.elim
    | some a =>
      rw [ei] at h
      obtain ⟨v, hv, rv⟩ := en.get i a ei
      refine ⟨v, hv, s, S, ρ, gd, en, RS.step h en fun b S1 s1 H1 y x1 g1 r1 h1 => ?_⟩
      refine hz s1 S1 H1 a b v y _ _ g1 (rv.mono x1) r1 (RS.step h1 (en.mono x1) fun w S2 s2 H2 z x2 g2 r2 h2 => ?_)
      exact RS.here h2 g2 (((en.mono x1).mono x2).set r2)
theorem ipz_int {K : PySem.W.Frag} {f : Int → Int → Int} {op : O2} (hf : ∀ i j S, op (.val (.int i)) (.val (.int j)) S = .ok (.val (.int (f i j))) S) (hn : ∀ a b S, (∃ i j, a = .val (.int i) ∧ b = .val (.int j)) ∨ op a b S = .bad) : IpZ K CT (ipI f) op := fun s S H a b x y Q EX gd ra rb h => by
  rcases hn a b S with ⟨i, j, rfl, rfl⟩ | e
  · rw [hf] at h
    exact ⟨i, j, ra, rb, RG.here h gd rfl⟩
  · rw [e] at h; exact h.elim
end
end Z
end
-- part Z7
section
set_option Elab.async false
set_option linter.all false
set_option maxRecDepth 100000
set_option autoImplicit false
namespace Z
open PySem PySem.Spec PyProof.Rows L2

/-! ### fields -/
def lookA {α : Type} (f : Str) (ns : List Str) (xs : List α) : Option α := (ns.zip xs).lookup f
section
variable {K : PySem.W.Frag} {CT : CTb} {s : Fs} {F : Hp}
theorem lookW {f : Str} : ∀ {ns : List Str} {ws : List W} {vs : List V} {w : W}, RepWs K CT s ws vs → lookA f ns ws = some w → ∃ v, (ns.zip vs).lookup f = some v ∧ RepW K CT s w v
  | [], _, _, _, _, e => by simp [lookA] at e
  | _ :: _, [], _, _, _, e => by simp [lookA] at e
  | n :: ns, w :: ws, _, _, ⟨v, vs', rfl, h2, h3⟩, e => by
    unfold lookA at e
    rw [List.zip_cons_cons, List.lookup_cons] at e ⊢
    cases q : f == n with
    | true => rw [q] at e; cases e; exact ⟨v, rfl, h2⟩
    | false => rw [q] at e; exact lookW h3 e
theorem lookPs {f : Str} : ∀ {ns : List Str} {ws : List P} {vs : List V} {w : P}, RepL K CT F ws vs → lookA f ns ws = some w → ∃ v, (ns.zip vs).lookup f = some v ∧ RepP K CT F w v
  | [], _, _, _, _, e => by simp [lookA] at e
  | _ :: _, [], _, _, _, e => by simp [lookA] at e
  | n :: ns, w :: ws, _, _, ⟨v, vs', rfl, h2, h3⟩, e => by
    unfold lookA at e
    rw [List.zip_cons_cons, List.lookup_cons] at e ⊢
    cases q : f == n with
    | true => rw [q] at e; cases e; exact ⟨v, rfl, h2⟩
    | false => rw [q] at e; exact lookPs h3 e
theorem look_none {m : Str} : ∀ {ns : List Str} {vs : List V}, ns.contains m = false → (ns.zip vs).lookup m = none
  | [], _, _ => by simp
  | _ :: _, [], _ => by simp
  | n :: ns, v :: vs, h => by
    rw [List.contains_cons, Bool.or_eq_false_iff] at h
    rw [List.zip_cons_cons, List.lookup_cons, h.1]
    exact look_none h.2
end
def putN (f : Str) : List Str → List Str
  | [] => [f]
  | g :: r => if g = f then g :: r else g :: putN f r
def putA {α : Type} (f : Str) (x : α) : List Str → List α → List α
  | [], _ => [x]
  | _ :: _, [] => []
  | g :: r, y :: ys => if g = f then x :: ys else y :: putA f x r ys
theorem putN_len {α : Type} (f : Str) (x : α) : ∀ {ns : List Str} {ys : List α}, ns.length = ys.length → (putN f ns).length = (putA f x ns ys).length
  | [], [], _ => rfl
  | [], _ :: _, h => by simp at h
  | _ :: _, [], h => by simp at h
  | g :: r, y :: ys, h => by
    have h' : r.length = ys.length := by simpa using h
    unfold putN putA
    split
    · simp [h']
    · simp [putN_len f x h']
theorem putF_zip (f : Str) (v : V) : ∀ {ns : List Str} {vs : List V}, ns.length = vs.length → putF f v (ns.zip vs) = (putN f ns).zip (putA f v ns vs)
  | [], [], _ => rfl
  | [], _ :: _, h => by simp at h
  | _ :: _, [], h => by simp at h
  | g :: r, y :: ys, h => by
    have h' : r.length = ys.length := by simpa using h
    rw [List.zip_cons_cons]
    unfold putF putN putA
    split
    · rfl
    · rw [putF_zip f v h']; rfl
theorem RepWs.put {K : PySem.W.Frag} {CT : CTb} {s : Fs} {f : Str} {w : W} {v : V} (hw : RepW K CT s w v) : ∀ {ns : List Str} {ws : List W} {vs : List V}, ns.length = ws.length → RepWs K CT s ws vs → RepWs K CT s (putA f w ns ws) (putA f v ns vs)
  | [], _, _, _, _ => ⟨v, [], rfl, hw, rfl⟩
  | _ :: _, [], _, h, _ => by simp at h
  | g :: r, y :: ys, _, h, ⟨v', vs', h1, h2, h3⟩ => by
    have h' : r.length = ys.length := by simpa using h
    subst h1
    unfold putA
    split
    · exact ⟨v, vs', rfl, hw, h3⟩
    · exact ⟨v', _, rfl, h2, RepWs.put hw h' h3⟩
def fldOf (c f : Str) (S : Store) : W → Option W
  | .val (.obj c' ns ps) => if c' = c then (lookA f ns ps).map .val else none
  | .loc n => match S[n]? with
    | some (.ins c' ns ws) => if c' = c then lookA f ns ws else none
    | some (.frz (.obj c' ns ps)) => if c' = c then (lookA f ns ps).map .val else none
    | _ => none
  | _ => none
def eFld (c f : Str) (fa : FE W) : FE W := fun ρ S => (fa ρ S).bind fun w S1 => orBad (fldOf c f S1 w) S1
def sFldS (c f : Str) (fo fv : FE W) : FS := fun ρ S => (fv ρ S).toR ρ fun w S1 => (fo ρ S1).toR ρ fun o S2 => match o with
  | .loc n => match S2[n]? with
    | some (.ins c' ns ws) => if c' = c ∧ ns.length < 1000 then .nx ρ (S2.set n (.ins c' (putN f ns) (putA f w ns ws))) else .bad
    | _ => .bad
  | _ => .bad
/-- a class of the program: what is known of it -/
structure ClsF (K : PySem.W.Frag) (CT : CTb) (c : Str) : Prop where
  cl : Cls K (CT c)
section
variable {X : Cx} {CT : CTb} {U : WX} {e o value : Expr} {fe fo fv : FE W} {pos pos' : Pos} {c f : Str}
theorem fldOf_ok {K : PySem.W.Frag} {s : Fs} {S : Store} {H : Hp} (g : Gd K CT s S H) {w u : W} {v : V} (r : RepW K CT s w v) (e : fldOf c f S w = some u) : ∃ a dx fs x, v = .ref a ∧ H a = some (.ins (CT c) dx fs) ∧ fs.lookup f = some x ∧ RepW K CT s u x := by
  cases w with
  | val p =>
    cases p with
    | obj c' ns ps =>
      simp only [fldOf] at e
      split at e
      · rename_i hc
        subst hc
        simp only [Option.map_eq_some_iff] at e
        obtain ⟨q, e, rfl⟩ := e
        obtain ⟨a, dx, vs, rfl, h1, hl, h2⟩ := r
        obtain ⟨x, e1, r1⟩ := lookPs h2 e
        exact ⟨a, dx, _, x, rfl, g.exF _ _ h1, e1, r1⟩
      · cases e
    | _ => cases e
  | exc => cases e
  | loc n =>
    obtain ⟨a, h1, rfl⟩ := r
    unfold fldOf at e
    cases hc : S[n]? with
    | none => simp [hc] at e
    | some cell =>
      have q := g.cells n _ a hc h1
      cases cell with
      | lst ws => simp [hc] at e
      | dct _ ws => simp [hc] at e
      | dcu _ ws => simp [hc] at e
      | ins c' ns ws =>
        simp only [hc] at e
        split at e
        · rename_i h; subst h
          obtain ⟨_, _, dx, vs, q3, ql, q4⟩ := q
          obtain ⟨x, e1, r1⟩ := lookW q4 e
          exact ⟨a, dx, _, x, rfl, q3, e1, r1⟩
        · cases e
      | frz p =>
        cases p with
        | obj c' ns ps =>
          simp only [hc] at e
          split at e
          · rename_i h; subst h
            simp only [Option.map_eq_some_iff] at e
            obtain ⟨z, e, rfl⟩ := e
            obtain ⟨b, dx, vs, hb, h1, hl, h2⟩ := q
            cases hb
            obtain ⟨x, e1, r1⟩ := lookPs h2 e
            exact ⟨_, dx, _, x, rfl, g.exF _ _ h1, e1, r1⟩
          · cases e
        | _ => simp [hc] at e
theorem pz_fld (cl : Cls X.K (CT c)) (na : NoAttr X.K (CT c) f) (he : PZ X CT U e fe) (hb : attributeBase e f X.env (eval e X.env) = eval e X.env := by rfl) : PZ X CT U (.Attribute e f pos) (eFld c f fe) := weakE (pe_fld he hb) fun σ H Q ⟨s, S, ρ, gd, en, h⟩ =>
  ⟨s, S, ρ, gd, en, RG.step h fun w S1 s1 H1 v x1 g1 r1 h1 => by
    obtain ⟨u, e, h1⟩ := RG.orBad h1
    obtain ⟨a, dx, fs, x, rfl, q1, q2, q3⟩ := fldOf_ok g1 r1 e
    exact ⟨a, CT c, dx, fs, x, rfl, q1, cl, na, q2, RG.here h1 g1 q3⟩⟩
theorem zs_fld (cl : Cls X.K (CT c)) (na : NoAttr X.K (CT c) f) (ho : PZ X CT U o fo) (hv : PZ X CT U value fv) (hs : swapsWith value (some (.Attribute o f pos')) pos.line X.env = pure false := by rfl) : PZS X CT U (.Assign [.Attribute o f pos'] value pos) (sFldS c f fo fv) :=
  weakS (ps_fld ho hv hs) fun D σ H ⟨s, S, ρ, gd, en, h⟩ => ⟨s, S, ρ, gd, en, RS.step h en fun w S1 s1 H1 v x1 g1 r1 h1 => ⟨s1, S1, ρ, g1, en.mono x1, RS.step h1 (en.mono x1) fun ow S2 s2 H2 ov x2 g2 r2 h2 => by
    cases ow with
    | val p => exact h2.elim
    | exc => exact h2.elim
    | loc n =>
      obtain ⟨a, m1, rfl⟩ := r2
      cases hc : S2[n]? with
      | none => simp only [hc] at h2; exact h2.elim
      | some cell =>
        cases cell with
        | lst ws => simp only [hc] at h2; exact h2.elim
        | dct _ ws => simp only [hc] at h2; exact h2.elim
        | dcu _ ws => simp only [hc] at h2; exact h2.elim
        | frz ws => simp only [hc] at h2; exact h2.elim
        | ins c' ns ws =>
          simp only [hc] at h2
          split at h2
          · rename_i hcc
            obtain ⟨rfl, hlen⟩ := hcc
            obtain ⟨q1, q2, dx, vs, q3, ql, q4⟩ := g2.cells n _ a hc m1
            have lz : ns.length = vs.length := by rw [q4.length]; exact ql
            refine ⟨a, CT c', dx, _, rfl, q3, cl, na, by rw [List.length_zip]; omega, ?_⟩
            rw [putF_zip f v lz]
            refine RS.here h2 (g2.setC hc trivial m1 q1 q2 (by rw [q3]; simp) ⟨q1, q2, dx, _, upd_same, putN_len f w ql, RepWs.put (r1.mono x2) ql q4⟩) ((en.mono x1).mono x2)
          · exact h2.elim⟩⟩

/-! ### methods of lists -/
def MethZ (K : PySem.W.Frag) (CT : CTb) (r : V → List V → Hp → VK → Prop) (op : W → List W → Store → RE W) : Prop := ∀ (s : Fs) (S : Store) (H : Hp) (w : W) (v : V) (ws : List W) (vs : List V) (Q : VK) (EX : Value → Option Addr → Hp → Prop),
  Gd K CT s S H → RepW K CT s w v → RepWs K CT s ws vs → RG K CT (RepW K CT) s (op w ws S) Q EX → r v vs H Q
def isTy (T : String) (S : Store) (w : W) : Bool := match w with
  | .val (.str _) => T == "str"
  | .val (.int _) => T == "int"
  | w => T == "list" && (seqW S w).isSome
theorem isTy_ok {K : PySem.W.Frag} {s : Fs} {S : Store} {H : Hp} {T : String} (g : Gd K CT s S H) {w : W} {v : V} (r : RepW K CT s w v) (e : isTy T S w = true) : tyV K T v H := by
  unfold isTy at e
  split at e
  · rw [show v = _ from r]; exact beq_iff_eq.mp e
  · rw [show v = _ from r]; exact beq_iff_eq.mp e
  · simp only [Bool.and_eq_true, beq_iff_eq, Option.isSome_iff_exists] at e
    obtain ⟨rfl, ws, e⟩ := e
    obtain ⟨a, vs, rfl, h1, h2⟩ := seqW_ok g r e
    exact .inl ⟨rfl, vs, h1⟩
def eBM (T : String) (op : W → List W → Store → RE W) (fo : FE W) (fa : FE (List W)) : FE W := fun ρ S => (fo ρ S).bind fun w S1 => if isTy T S1 w = true then (fa ρ S1).bind fun ws S2 => op w ws S2 else .bad
def eBM0 (T : String) (op : W → List W → Store → RE W) (fo : FE W) : FE W := fun ρ S => (fo ρ S).bind fun w S1 => if isTy T S1 w = true then op w [] S1 else .bad
variable {es : List Expr} {ga : FE (List W)} {apos : Pos} {r : V → List V → Hp → VK → Prop} {op : W → List W → Store → RE W} {T bid : String} {name : Str}
theorem bm_can (hz : MethZ X.K CT r op) {σ : L2.St} {H : Hp} {Q : VK} (h : canE X.K CT U (eBM T op fo ga) σ H Q) : tBM X.K T r (canE X.K CT U fo) (canA X.K CT U ga) σ H Q := by
  obtain ⟨s, S, ρ, gd, en, h⟩ := h
  refine ⟨s, S, ρ, gd, en, RG.step h fun w S1 s1 H1 v x1 g1 r1 h1 => ?_⟩
  split at h1
  · rename_i ty
    exact ⟨isTy_ok g1 r1 ty, s1, S1, ρ, g1, en.mono x1, RG.step h1 fun ws S2 s2 H2 vs x2 g2 r2 h2 => hz s2 S2 H2 w v ws vs Q _ g2 (r1.mono x2) r2 h2⟩
  · exact h1.elim
theorem bm0_can (hz : MethZ X.K CT r op) {σ : L2.St} {H : Hp} {Q : VK} (h : canE X.K CT U (eBM0 T op fo) σ H Q) : tBM0 X.K T r (canE X.K CT U fo) σ H Q := by
  obtain ⟨s, S, ρ, gd, en, h⟩ := h
  refine ⟨s, S, ρ, gd, en, RG.step h fun w S1 s1 H1 v x1 g1 r1 h1 => ?_⟩
  split at h1
  · rename_i ty
    exact ⟨isTy_ok g1 r1 ty, hz s1 S1 H1 w v [] [] Q _ g1 r1 rfl h1⟩
  · exact h1.elim
/-- a live list -/
def liveL (S : Store) : W → Option (Nat × List W)
  | .loc n => match S[n]? with
    | some (.lst ws) => some (n, ws)
    | _ => none
  | _ => none
def appendW : W → List W → Store → RE W := fun o ws S => match liveL S o, ws with
  | some (n, xs), [w] => if xs.length < 100000 then .ok (.val .non) (S.set n (.lst (xs ++ [w]))) else .bad
  | _, _ => .bad
theorem liveL_ok {K : PySem.W.Frag} {s : Fs} {S : Store} {H : Hp} (g : Gd K CT s S H) {w : W} {v : V} {n : Nat} {xs : List W} (r : RepW K CT s w v) (e : liveL S w = some (n, xs)) :
    ∃ a vs, v = .ref a ∧ S[n]? = some (.lst xs) ∧ s.m[n]? = some a ∧ s.F a = none ∧ s.G a = none ∧ H a = some (.lst vs) ∧ RepWs K CT s xs vs := by
  cases w with
  | val p => cases e
  | exc => cases e
  | loc k =>
    unfold liveL at e
    cases hc : S[k]? with
    | none => simp [hc] at e
    | some cell =>
      cases cell with
      | lst ws =>
        simp only [hc] at e
        cases e
        obtain ⟨a, m1, rfl⟩ := r
        obtain ⟨q1, q2, vs, q3, q4⟩ := g.cells _ _ a hc m1
        exact ⟨a, vs, rfl, hc, m1, q1, q2, q3, q4⟩
      | _ => simp [hc] at e
theorem mz_append {K : PySem.W.Frag} : MethZ K CT rAppend appendW := fun s S H w v ws vs Q EX gd r1 r2 h => by
  unfold appendW at h
  split at h
  · rename_i n xs u e
    obtain ⟨a, us, rfl, h1, h2, h3, h4, h5, h6⟩ := liveL_ok gd r1 e
    obtain ⟨y, rfl, ry⟩ := rep1 r2
    split at h
    · rename_i hl
      exact ⟨a, us, y, rfl, rfl, h5, by rw [h6.length]; exact sz5' hl, RG.here h (gd.setC h1 trivial h2 h3 h4 (by rw [h5]; simp) ⟨h3, h4, _, upd_same, h6.append ⟨y, [], rfl, ry, rfl⟩⟩) rfl⟩
    · exact h.elim
  · exact h.elim
theorem pz_append (ho : PZ X CT U o fo) (ha : PZA X CT U [e] ga) (hst : starEach [e] X.env = (false, eval e X.env) :: starEach [] X.env := by rfl)
    (ht : PE X (.Call (.Attribute o "append" apos) [e] [] pos) (tBM X.K "list" rAppend (canE X.K CT U fo) (canA X.K CT U ga))) : PZ X CT U (.Call (.Attribute o "append" apos) [e] [] pos) (eBM "list" appendW fo ga) := weakE ht fun σ H Q h => bm_can mz_append h
/-- a method of a built-in: ht is pe_bm .. of the parts -/
theorem pz_bm {call : Expr} (hz : MethZ X.K CT r op) (ht : PE X call (tBM X.K T r (canE X.K CT U fo) (canA X.K CT U ga))) : PZ X CT U call (eBM T op fo ga) := weakE ht fun σ H Q h => bm_can hz h
theorem pz_bm0 {call : Expr} (hz : MethZ X.K CT r op) (ht : PE X call (tBM0 X.K T r (canE X.K CT U fo))) : PZ X CT U call (eBM0 T op fo) := weakE ht fun σ H Q h => bm0_can hz h
def insertW : W → List W → Store → RE W := fun o ws S => match liveL S o, ws with
  | some (n, xs), [.val (.int i), w] => if xs.length < 100000 ∧ 0 ≤ i ∧ i < 2 ^ 62 then .ok (.val .non) (S.set n (.lst (xs.take i.toNat ++ [w] ++ xs.drop i.toNat))) else .bad
  | _, _ => .bad
theorem RepWs.one {K : PySem.W.Frag} {s : Fs} {w : W} {v : V} (h : RepW K CT s w v) : RepWs K CT s [w] [v] := ⟨v, [], rfl, h, rfl⟩
theorem RepWs.take {K : PySem.W.Frag} {s : Fs} : ∀ {ws : List W} {vs : List V} (n : Nat), RepWs K CT s ws vs → RepWs K CT s (ws.take n) (vs.take n)
  | [], vs, n, h => by rw [show vs = [] from h]; simp; exact rfl
  | w :: ws, _, 0, ⟨v, vs', rfl, h2, h3⟩ => rfl
  | w :: ws, _, n + 1, ⟨v, vs', rfl, h2, h3⟩ => ⟨v, vs'.take n, rfl, h2, RepWs.take n h3⟩
theorem RepWs.drop {K : PySem.W.Frag} {s : Fs} : ∀ {ws : List W} {vs : List V} (n : Nat), RepWs K CT s ws vs → RepWs K CT s (ws.drop n) (vs.drop n)
  | [], vs, n, h => by rw [show vs = [] from h]; simp; exact rfl
  | w :: ws, _, 0, h => h
  | w :: ws, _, n + 1, ⟨v, vs', rfl, h2, h3⟩ => RepWs.drop n h3
theorem mz_insert {K : PySem.W.Frag} : MethZ K CT (fun x vs H Q => ∃ (l : Addr) (xs : List V) (i : Int) (y : V), x = .ref l ∧ vs = [.int i, y] ∧ H l = some (.lst xs) ∧ xs.length < sizeLine ∧ 0 ≤ i ∧ i < 2 ^ 63 ∧
    Q .non (upd H l (.lst (xs.take i.toNat ++ [y] ++ xs.drop i.toNat)))) insertW := fun s S H w v ws vs Q EX gd r1 r2 h => by
  unfold insertW at h
  split at h
  · rename_i n xs i u e
    obtain ⟨a, us, rfl, h1, h2, h3, h4, h5, h6⟩ := liveL_ok gd r1 e
    obtain ⟨y, y2, rfl, ry, ry2⟩ := rep2 r2
    split at h
    · rename_i hl
      exact ⟨a, us, i, y2, rfl, by rw [show y = _ from ry], h5, by rw [h6.length]; exact sz5' hl.1, hl.2.1, by omega, RG.here h (gd.setC h1 trivial h2 h3 h4 (by rw [h5]; simp) ⟨h3, h4, _, upd_same, (RepWs.append (RepWs.append (h6.take _) (RepWs.one ry2)) (h6.drop _))⟩) rfl⟩
    · exact h.elim
  · exact h.elim
def popW : W → List W → Store → RE W := fun o ws S => match liveL S o, ws with
  | some (n, xs), [] => match xs[xs.length - 1]? with
    | some w => .ok w (S.set n (.lst xs.dropLast))
    | none => .bad
  | _, _ => .bad
theorem RepWs.dropLast {K : PySem.W.Frag} {s : Fs} {ws : List W} {vs : List V} (h : RepWs K CT s ws vs) : RepWs K CT s ws.dropLast vs.dropLast := by
  rw [List.dropLast_eq_take, List.dropLast_eq_take, h.length]
  exact h.take _
theorem mz_pop {K : PySem.W.Frag} : MethZ K CT rPop popW := fun s S H w v ws vs Q EX gd r1 r2 h => by
  unfold popW at h
  split at h
  · rename_i n xs e
    obtain ⟨a, us, rfl, h1, h2, h3, h4, h5, h6⟩ := liveL_ok gd r1 e
    rw [show vs = [] from r2]
    split at h
    · rename_i u eu
      obtain ⟨y, ey, ry⟩ := h6.get' eu
      exact ⟨a, us, y, rfl, rfl, h5, by rw [h6.length]; exact ey, RG.here h (gd.setC h1 trivial h2 h3 h4 (by rw [h5]; simp) ⟨h3, h4, _, upd_same, h6.dropLast⟩) ry⟩
    · exact h.elim
  · exact h.elim
/-- what may be added to a list: a list's items -/
def lstWs (S : Store) : W → Option (List W)
  | .val (.lst ps) => some (ps.map .val)
  | .loc n => match S[n]? with
    | some (.lst ws) => some ws
    | some (.frz (.lst ps)) => some (ps.map .val)
    | _ => none
  | _ => none
theorem lstWs_ok {K : PySem.W.Frag} {s : Fs} {S : Store} {H : Hp} (g : Gd K CT s S H) {w : W} {v : V} {ws : List W} (r : RepW K CT s w v) (e : lstWs S w = some ws) : ∃ a vs, v = .ref a ∧ H a = some (.lst vs) ∧ RepWs K CT s ws vs := by
  cases w with
  | val p =>
    cases p with
    | lst ps => cases e; obtain ⟨a, vs, h1, h2, h3⟩ := r; exact ⟨a, vs, h1, g.exF _ _ h2, h3.ws⟩
    | _ => cases e
  | exc => cases e
  | loc n =>
    obtain ⟨a, h1, rfl⟩ := r
    unfold lstWs at e
    cases hc : S[n]? with
    | none => simp [hc] at e
    | some c =>
      have q := g.cells n _ a hc h1
      cases c with
      | ins c ns ws => simp [hc] at e
      | dct c ws => simp [hc] at e
      | dcu c ws => simp [hc] at e
      | lst ws' => simp only [hc] at e; cases e; obtain ⟨_, _, vs, q3, q4⟩ := q; exact ⟨a, vs, rfl, q3, q4⟩
      | frz p =>
        cases p with
        | lst ps => simp only [hc] at e; cases e; obtain ⟨b, vs, hb, q3, q4⟩ := q; cases hb; exact ⟨_, vs, rfl, g.exF _ _ q3, q4.ws⟩
        | _ => simp [hc] at e
def extendW : W → List W → Store → RE W := fun o ws S => match liveL S o, ws with
  | some (n, xs), [w] => match lstWs S w with
    | some ys => if xs.length + ys.length ≤ 100000 then .ok (.val .non) (S.set n (.lst (xs ++ ys))) else .bad
    | none => .bad
  | _, _ => .bad
theorem mz_extend {K : PySem.W.Frag} : MethZ K CT rExtend extendW := fun s S H w v ws vs Q EX gd r1 r2 h => by
  unfold extendW at h
  split at h
  · rename_i n xs u e
    obtain ⟨a, us, rfl, h1, h2, h3, h4, h5, h6⟩ := liveL_ok gd r1 e
    obtain ⟨y, rfl, ry⟩ := rep1 r2
    split at h
    · rename_i ys ey
      obtain ⟨b, zs, rfl, hb, rz⟩ := lstWs_ok gd ry ey
      split at h
      · rename_i hl
        exact ⟨a, b, us, zs, rfl, rfl, h5, hb, by rw [h6.length, rz.length]; exact sz5 hl, RG.here h (gd.setC h1 trivial h2 h3 h4 (by rw [h5]; simp) ⟨h3, h4, _, upd_same, h6.append rz⟩) rfl⟩
      · exact h.elim
    · exact h.elim
  · exact h.elim
end
end Z
end
-- part Z8
section
set_option Elab.async false
set_option linter.all false
set_option maxRecDepth 100000
set_option autoImplicit false
namespace Z
open PySem PySem.Spec PyProof.Rows L2

/-! ### defs of data -/
/-- the heap without the tables of code objects -/
def noT (CT : CTb) (H : Hp) : Hp := fun b => if b ∈ CT.tabs then none else H b
def Tb (CT : CTb) (F H : Hp) : Prop := ∀ P ∈ CT.tabs, GxR.TabG H P ∧ F P = none
/-- how a call left the frozen part: nothing that stood is touched, but for the tables -/
structure Left (CT : CTb) (F H F' H' : Hp) : Prop where
  f : Ex F F'
  h : Ex (noT CT H) H'
  fh : Ex F' H'
  new : ∀ a, F a = none → noT CT H a ≠ none → F' a = none
  tab : Tb CT F' H'
def RP (K : PySem.W.Frag) (CT : CTb) (F H : Hp) (r : Rp) (Q : VK) (E : XK) : Prop := match r with
  | .ok p => ∀ F' H' v, Left CT F H F' H' → RepP K CT F' p v → Q v H'
  | .ex x => ∀ F' H' c dd, Left CT F H F' H' → RepX K CT F' x c dd → E c dd H'
  | .bad => False
def spP (K : PySem.W.Frag) (CT : CTb) (n : Nat) (g : List P → Rp) : Sp := fun vs H Q E => ∃ F ds, Ex F H ∧ Tb CT F H ∧ ds.length = n ∧ RepL K CT F ds vs ∧ RP K CT F H (g ds) Q E
def envOf (ds : List P) (m : Nat) : Env := (ds.map fun p => some (W.val p)) ++ List.replicate (m - ds.length) none
def runP (m : Nat) (body : FS) (ds : List P) : Rp := match body (envOf ds m) [] with
  | .rt w S => match frz S w with
    | some (p, _) => .ok p
    | none => .bad
  | .nx _ _ => .ok .non
  | .ex x _ _ => .ex x
  | _ => .bad
def liftP (r : Rp) (S : Store) : RE W := match r with
  | .ok p => .ok (.val p) S
  | .ex x => .ex x S
  | .bad => .bad
section
variable {K : PySem.W.Frag} {CT : CTb}
theorem envOf_ok {F G : Hp} {ds : List P} {vs : List V} {N : List Str} {m : List Addr} (r : RepL K CT F ds vs) : EnvOk K CT ⟨G, F, m⟩ (envOf ds N.length) (start N vs) := by
  refine ⟨by simp [envOf, L2.start, r.length], fun i w e => ?_⟩
  unfold envOf at e
  unfold L2.start
  by_cases hi : i < ds.length
  · rw [List.getElem?_append_left (by simpa using hi), List.getElem?_map] at e
    cases ed : ds[i]? with
    | none => rw [ed] at e; cases e
    | some p =>
      rw [ed] at e
      cases e
      obtain ⟨v, ev, rv⟩ := r.get' ed
      exact ⟨v, by rw [List.getElem?_append_left (by simpa [r.length] using hi), List.getElem?_map, ev]; rfl, rv⟩
  · rw [List.getElem?_append_right (by simpa using Nat.le_of_not_lt hi), List.getElem?_replicate] at e
    split at e <;> cases e
theorem noT_ex (H : Hp) : Ex (noT CT H) H := fun a o e => by
  unfold noT at e
  split at e
  · cases e
  · exact e
theorem noT_at {H : Hp} {a : Addr} (h : a ∉ CT.tabs) : noT CT H a = H a := by unfold noT; rw [if_neg h]
theorem noT_tab {H : Hp} {P : Addr} (h : P ∈ CT.tabs) : noT CT H P = none := by unfold noT; rw [if_pos h]
theorem Gd.start {F H : Hp} (e : Ex F H) (t : Tb CT F H) : Gd K CT ⟨noT CT H, F, []⟩ [] H := ⟨e, noT_ex H, rfl, fun n c a h => by simp at h, fun n n' c c' a h => by simp at h, fun P hP => (t P hP).1, fun P hP => (t P hP).2, fun P hP => noT_tab hP⟩
theorem Gd.tb {s : Fs} {S : Store} {H : Hp} (g : Gd K CT s S H) : Tb CT s.F H := fun P hP => ⟨g.tab P hP, g.notF P hP⟩
theorem left_of {F H : Hp} {s' : Fs} {S' : Store} {H' : Hp} (x : Ext ⟨noT CT H, F, []⟩ s') (g : Gd K CT s' S' H') : Left CT F H s'.F H' := ⟨x.f, by have := g.exG; rw [← x.g] at this; exact this, g.exF, x.new, g.tb⟩
/-- what a call leaves -/
theorem Gd.growT {s : Fs} {S : Store} {H F' H' : Hp} (g : Gd K CT s S H) (l : Left CT s.F H F' H') : Gd K CT { s with F := F' } S H' ∧ Ext s { s with F := F' } := by
  have nt : ∀ a, s.G a ≠ none → a ∉ CT.tabs := fun a h z => h (g.notG a z)
  have x : Ext s { s with F := F' } := ⟨rfl, l.f, fun _ _ h => h, fun a h hg => l.new a h (by
    rw [noT_at (nt a hg)]
    cases q : s.G a with
    | none => exact absurd q hg
    | some o => rw [g.exG a o q]; simp)⟩
  have cn : ∀ a, (∃ o, H a = some o ∧ ∀ ps, o ≠ .tbl ps) → a ∉ CT.tabs := fun a ⟨o, h, n⟩ z => by
    obtain ⟨ps, hp, _⟩ := g.tab a z
    rw [hp] at h; cases h; exact n ps rfl
  refine ⟨⟨l.fh, fun a o e => l.h a o (by rw [noT_at (nt a (by rw [e]; simp))]; exact g.exG a o e), g.len, fun n c a h1 h2 => ?_, g.inj, fun P hP => (l.tab P hP).1, fun P hP => (l.tab P hP).2, g.notG⟩, x⟩
  have q := g.cells n c a h1 h2
  cases c with
  | lst ws =>
    obtain ⟨q1, q2, vs, q3, q4⟩ := q
    have na := cn a ⟨_, q3, fun ps z => by cases z⟩
    exact ⟨l.new a q1 (by rw [noT_at na, q3]; simp), q2, vs, l.h _ _ (by rw [noT_at na]; exact q3), q4.mono x⟩
  | dct ks ws =>
    obtain ⟨q1, q2, vs, q3, ql, q4⟩ := q
    have na := cn a ⟨_, q3, fun ps z => by cases z⟩
    exact ⟨l.new a q1 (by rw [noT_at na, q3]; simp), q2, vs, l.h _ _ (by rw [noT_at na]; exact q3), ql, q4.mono x⟩
  | dcu ks ws =>
    obtain ⟨q1, q2, vs, q3, ql, q4⟩ := q
    have na := cn a ⟨_, q3, fun ps z => by cases z⟩
    exact ⟨l.new a q1 (by rw [noT_at na, q3]; simp), q2, vs, l.h _ _ (by rw [noT_at na]; exact q3), ql, q4.mono x⟩
  | ins c ns ws =>
    obtain ⟨q1, q2, dx, vs, q3, ql, q4⟩ := q
    have na := cn a ⟨_, q3, fun ps z => by cases z⟩
    exact ⟨l.new a q1 (by rw [noT_at na, q3]; simp), q2, dx, vs, l.h _ _ (by rw [noT_at na]; exact q3), ql, q4.mono x⟩
  | frz p => exact RepP.mono l.f q
/-- a def's body, wherever it runs -/
def DefOk (P' : Program) (w : World) (K : PySem.W.Frag) (mg : Str → Option Value) (base : Heap) (CT : CTb) (N : List Str) (qual : Str) (st : Stmt) (f : Addr) (k : Nat) (body : FS) : Prop :=
  ∀ (cdv : Value) (A : Around) (s : Shared) (H : Hp) (E : XK) (o : List PySem.Env), Room k (cxOf (L2.CX P' w) P' w K mg base N qual (defScope st) f cdv A o s H E).A →
    Takes (cxOf (L2.CX P' w) P' w K mg base N qual (defScope st) f cdv A o s H E) (fun c d _ H => E c d H) →
    PassesOwn (model P' w) (cxOf (L2.CX P' w) P' w K mg base N qual (defScope st) f cdv A o s H E).A (cxOf (L2.CX P' w) P' w K mg base N qual (defScope st) f cdv A o s H E).env (cxOf (L2.CX P' w) P' w K mg base N qual (defScope st) f cdv A o s H E).xe →
      PZSs (cxOf (L2.CX P' w) P' w K mg base N qual (defScope st) f cdv A o s H E) CT (fun c d _ H => E c d H) (defBody st) body
/-- THE RULE for a def of data -/
theorem fn_pure {P' : Program} {w : World} {mg : Str → Option Value} {base : Heap} {x qual : Str} {st : Stmt} {f : Addr} {fd : FuncData} {N ps : List Str} {k : Nat} {body : FS} {dvs : List V} {kws : List (Str × V)} (F : FunD K x qual (defArgs st) (defBody st) (defScope st) dvs kws f fd) (S : FnScope N ps (defScope st))
    (hb : DefOk P' w K mg base CT N qual st f k body) : FnOk P' w K mg base (L2.CX P' w) (k + 1) f fd ps (spP K CT ps.length (runP N.length body)) := by
  refine F.ok S (fun vs H Q E ⟨F, ds, _, _, hl, r, _⟩ => by rw [r.length, hl]) fun cdv A outer s H vs Q E hr hsp => ⟨_, hb cdv A s H E outer hr (takes_of rfl rfl rfl rfl) (passes_of rfl), ?_⟩
  obtain ⟨F0, ds, eF, tb, hl, r, h⟩ := hsp
  refine ⟨⟨noT CT H, F0, []⟩, [], envOf ds N.length, Gd.start eF tb, envOf_ok r, ?_⟩
  unfold runP at h
  cases er : body (envOf ds N.length) [] with
  | nx ρ' S' => rw [er] at h; exact fun s' H' σ' x g en => h s'.F H' _ (left_of x g) rfl
  | rt w S' =>
    rw [er] at h
    intro s' H' v x g rw
    simp only at h
    cases ef : frz S' w with
    | none => rw [ef] at h; exact h.elim
    | some q =>
      obtain ⟨p, S2⟩ := q
      rw [ef] at h
      obtain ⟨s2, x2, g2, r2⟩ := frz_ok g rw ef
      exact h s2.F H' v (left_of (x.trans x2) g2) r2
  | ex x ρ' S' => rw [er] at h; exact fun s' H' σ' c dd x g en q => h s'.F H' c dd (left_of x g) q
  | bk ρ' S' => rw [er] at h; exact h.elim
  | ct ρ' S' => rw [er] at h; exact h.elim
  | bad => rw [er] at h; exact h.elim
/-- a call, from the caller's state -/
theorem RG.call {s : Fs} {S : Store} {H : Hp} {r : Rp} {Q : VK} {EX : XK} (g : Gd K CT s S H) (h : RG K CT (RepW K CT) s (liftP r S) Q EX) : RP K CT s.F H r Q EX := by
  cases r with
  | ok p =>
    intro F' H' v l rv
    obtain ⟨g', x⟩ := g.growT l
    exact h _ _ _ x g' rv
  | ex x =>
    intro F' H' c dd l rv
    obtain ⟨g', x'⟩ := g.growT l
    exact h _ _ _ _ x' g' rv
  | bad => exact h
end
def eCall (n : Nat) (g : List P → Rp) (fa : FE (List W)) : FE W := fun ρ S => (fa ρ S).bind fun ws S1 => (doFrzs ws S1).bind fun ps S2 => if ps.length = n then liftP (g ps) S2 else .bad
section
variable {X : Cx} {CT : CTb} {U : WX} {e o : Expr} {es : List Expr} {fo : FE W} {ga : FE (List W)} {pos p apos : Pos} {x m c : Str} {k n : Nat} {f : Addr} {fd : FuncData} {ps : List Str} {g : List P → Rp}
theorem pz_call (F : FnOk X.prog X.w X.K X.mg X.base (L2.CX X.prog X.w) k f fd ps (spP X.K CT n g)) (hr : Room k X.A) (hg : Gl X x) (hm : X.mg x = some (.ref f)) (hk : PySem.W.keepIn X.K (.ref f) = true) (hb : Binds X.K fd ps []) (tk : Takes X U)
    (ha : PZA X CT U (e :: es) ga) (hdb : (x == ("__debug__" : Str)) = false := by decide) (he : starEach (e :: es) X.env = (false, eval e X.env) :: starEach es X.env := by rfl) (hpl : (backTo pos (starEach es X.env)).any (·.1) = false := by rfl) :
    PZ X CT U (.Call (.Name x p) (e :: es) [] pos) (eCall n g ga) := weakE (pe_callS F hr hg hm hk hb (fun σ => passAt tk σ) ha hdb he hpl) fun σ H Q ⟨s, S, ρ, gd, en, h⟩ =>
  ⟨s, S, ρ, gd, en, RG.step h fun ws S1 s1 H1 vs x1 g1 r1 h1 => by
    obtain ⟨ps, S2, s2, x2, g2, r2, h2⟩ := RG.frzs g1 r1 h1
    split at h2
    · rename_i hl
      exact ⟨s2.F, ps, g2.exF, g2.tb, hl, r2, RG.call g2 h2⟩
    · exact h2.elim⟩
/-! methods, at the slots -/
def tMethS (C : Addr) (m : Str) (sp : Sp) (E : L2.St → XK) (ta : TE) (t : TA) : TE := fun σ H Q => ta σ H fun x H1 => ∃ a dx fs, x = .ref a ∧ H1 a = some (.ins C dx fs) ∧ fs.lookup m = none ∧
  t σ H1 fun vs H2 => sp (x :: vs) H2 Q (E σ)
theorem pe_methS {C : Addr} {CX : CXT} {sp : Sp} {E : L2.St → XK} {ta : TE} {t : TA} {pl : Sem Bool} (he : PE X o ta) (c : Cls X.K C) (hm : Meth X.K C m f) (F : FnOk X.prog X.w X.K X.mg X.base CX k f fd ps sp) (hr : Room k X.A) (hb : Binds X.K fd ps []) (hx : ∀ σ, PassesAt CX X σ (E σ)) (ha : PA X (e :: es) t)
    (hst : starEach (e :: es) X.env = (false, eval e X.env) :: starEach es X.env := by rfl) (hpl : (backTo pos (starEach es X.env)).any (·.1) = false := by rfl)
    (ht : eval (.Call (.Attribute o m apos) (e :: es) [] pos) X.env = (do
      let ov ← eval o X.env
      standAt apos.atName
      let (f, first) ← holding [ov] (getMethod ov m pl)
      callWith pos f first (backTo pos (starEach (e :: es) X.env)) (backToKw pos (keywordEach [] X.env))) := by rfl) :
    PE X (.Call (.Attribute o m apos) (e :: es) [] pos) (tMethS C m sp E ta t) := by
  refine ⟨fun pins s σ H Q I h => ?_⟩
  refine PySem.W.methodCall_KW (pl := pl) (thn (he.run pins s σ H _ I h) fun u s1 ⟨x, H1, I1, rx, a, dx, fs, ex, ea, l, q⟩ => ?_) ht
  subst ex
  obtain rfl : u = Value.ref a := rx
  refine getmeth_ok I1 ea c hm l ?_
  refine PySem.W.callWith_K (first := [.ref a]) (h₀ := X.base) I.ok.mod.kin hm.kp (thn (ha.run pos pins s1 σ H1 _ I1 q) fun us s2 ⟨vs, H2, I2, r, q2⟩ => ⟨I2.kIn, ?_⟩) hst hpl
  exact run_fnS (us := .ref a :: us) (vs := .ref a :: vs) F hr hb (hx σ) I2 (.cons rfl r) q2
theorem pe_methS0 {C : Addr} {CX : CXT} {sp : Sp} {E : L2.St → XK} {ta : TE} {pl : Sem Bool} (he : PE X o ta) (c : Cls X.K C) (hm : Meth X.K C m f) (F : FnOk X.prog X.w X.K X.mg X.base CX k f fd ps sp) (hr : Room k X.A) (hb : Binds X.K fd ps []) (hx : ∀ σ, PassesAt CX X σ (E σ))
    (ht : eval (.Call (.Attribute o m apos) [] [] pos) X.env = (do
      let ov ← eval o X.env
      standAt apos.atName
      let (f, first) ← holding [ov] (getMethod ov m pl)
      callWith pos f first (backTo pos (starEach [] X.env)) (backToKw pos (keywordEach [] X.env))) := by rfl) :
    PE X (.Call (.Attribute o m apos) [] [] pos) (tMethS C m sp E ta tNil) := by
  refine ⟨fun pins s σ H Q I h => ?_⟩
  refine PySem.W.methodCall_KW (pl := pl) (thn (he.run pins s σ H _ I h) fun u s1 ⟨x, H1, I1, rx, a, dx, fs, ex, ea, l, q⟩ => ?_) ht
  subst ex
  obtain rfl : u = Value.ref a := rx
  refine getmeth_ok I1 ea c hm l ?_
  exact PySem.W.callWith_K0 (first := [.ref a]) I1.kIn hm.kp (run_fnS (us := [.ref a]) (vs := [.ref a]) F hr hb (hx σ) I1 (.cons rfl .nil) q)
/-- a method of data: the instance is frozen first -/
def eMeth (c m : Str) (n : Nat) (g : List P → Rp) (fo : FE W) (fa : FE (List W)) : FE W := fun ρ S => (fo ρ S).bind fun w S1 => (doFrz w S1).bind fun p S2 => match p with
  | .obj c' ns qs => if c' = c ∧ ns.contains m = false then (fa ρ S2).bind fun ws S3 => (doFrzs ws S3).bind fun ps S4 => if ps.length + 1 = n then liftP (g (.obj c' ns qs :: ps)) S4 else .bad else .bad
  | _ => .bad
theorem meth_can {sp : Sp} (hsp : sp = spP X.K CT n g) {σ : L2.St} {H : Hp} {Q : VK} (h : canE X.K CT U (eMeth c m n g fo ga) σ H Q) : tMethS (CT c) m sp (WE U) (canE X.K CT U fo) (canA X.K CT U ga) σ H Q := by
  subst hsp
  obtain ⟨s, S, ρ, gd, en, h⟩ := h
  refine ⟨s, S, ρ, gd, en, RG.step h fun w S1 s1 H1 v x1 g1 r1 h1 => ?_⟩
  obtain ⟨p, S2, s2, x2, g2, r2, h2⟩ := RG.frz g1 r1 h1
  split at h2
  · rename_i c' ns qs
    split at h2
    · rename_i hc
      obtain ⟨rfl, hns⟩ := hc
      have r2' := r2
      obtain ⟨a, dx, vs, rfl, q1, ql, q2⟩ := r2
      refine ⟨a, dx, _, rfl, g2.exF _ _ q1, look_none hns, s2, S2, ρ, g2, (en.mono x1).mono x2, RG.step h2 fun ws S3 s3 H3 us x3 g3 r3 h3 => ?_⟩
      obtain ⟨ps, S4, s4, x4, g4, r4, h4⟩ := RG.frzs g3 r3 h3
      split at h4
      · rename_i hl
        exact ⟨s4.F, .obj c' ns qs :: ps, g4.exF, g4.tb, by simpa using hl, ⟨_, _, rfl, (r2'.mono x3.f).mono x4.f, r4⟩, RG.call g4 h4⟩
      · exact h4.elim
    · exact h2.elim
  · exact h2.elim
theorem pz_meth {pl : Sem Bool} (cl : Cls X.K (CT c)) (hm : Meth X.K (CT c) m f) (F : FnOk X.prog X.w X.K X.mg X.base (L2.CX X.prog X.w) k f fd ps (spP X.K CT n g)) (hr : Room k X.A) (hb : Binds X.K fd ps []) (tk : Takes X U) (ho : PZ X CT U o fo) (ha : PZA X CT U (e :: es) ga)
    (hst : starEach (e :: es) X.env = (false, eval e X.env) :: starEach es X.env := by rfl) (hpl : (backTo pos (starEach es X.env)).any (·.1) = false := by rfl)
    (ht : eval (.Call (.Attribute o m apos) (e :: es) [] pos) X.env = (do
      let ov ← eval o X.env
      standAt apos.atName
      let (f, first) ← holding [ov] (getMethod ov m pl)
      callWith pos f first (backTo pos (starEach (e :: es) X.env)) (backToKw pos (keywordEach [] X.env))) := by rfl) : PZ X CT U (.Call (.Attribute o m apos) (e :: es) [] pos) (eMeth c m n g fo ga) :=
  weakE (pe_methS (pl := pl) ho cl hm F hr hb (fun σ => passAt tk σ) ha hst hpl ht) fun σ H Q h => meth_can rfl h
theorem pz_meth0 {pl : Sem Bool} (cl : Cls X.K (CT c)) (hm : Meth X.K (CT c) m f) (F : FnOk X.prog X.w X.K X.mg X.base (L2.CX X.prog X.w) k f fd ps (spP X.K CT n g)) (hr : Room k X.A) (hb : Binds X.K fd ps []) (tk : Takes X U) (ho : PZ X CT U o fo)
    (ht : eval (.Call (.Attribute o m apos) [] [] pos) X.env = (do
      let ov ← eval o X.env
      standAt apos.atName
      let (f, first) ← holding [ov] (getMethod ov m pl)
      callWith pos f first (backTo pos (starEach [] X.env)) (backToKw pos (keywordEach [] X.env))) := by rfl) : PZ X CT U (.Call (.Attribute o m apos) [] [] pos) (eMeth c m n g fo aNil) :=
  weakE (pe_methS0 (pl := pl) ho cl hm F hr hb (fun σ => passAt tk σ) ht) fun σ H Q h => by
    have := meth_can (ga := aNil) rfl h
    obtain ⟨s, S, ρ, gd, en, h⟩ := h
    refine ⟨s, S, ρ, gd, en, RG.step h fun w S1 s1 H1 v x1 g1 r1 h1 => ?_⟩
    obtain ⟨p, S2, s2, x2, g2, r2, h2⟩ := RG.frz g1 r1 h1
    split at h2
    · rename_i c' ns qs
      split at h2
      · rename_i hc
        obtain ⟨rfl, hns⟩ := hc
        have r2' := r2
        obtain ⟨a, dx, vs, rfl, q1, ql, q2⟩ := r2
        refine ⟨a, dx, _, rfl, g2.exF _ _ q1, look_none hns, ?_⟩
        simp only [aNil, RE.bind, doFrzs, Z.frzs] at h2
        split at h2
        · rename_i hl
          exact ⟨s2.F, [.obj c' ns qs], g2.exF, g2.tb, by simpa using hl, ⟨_, _, rfl, r2', rfl⟩, RG.call g2 h2⟩
        · exact h2.elim
      · exact h2.elim
    · exact h2.elim

/-! ### instances made: of data -/
/-- __init__'s promise -/
def spI (K : PySem.W.Frag) (CT : CTb) (c : Str) (n : Nat) (g : List P → Rp) : Sp := fun vs H Q E => ∃ F ds a dx vs', vs = .ref a :: vs' ∧ Ex F H ∧ Tb CT F H ∧ F a = none ∧ H a = some (.ins (CT c) dx []) ∧ ds.length = n ∧ RepL K CT F ds vs' ∧
  RP K CT F (fun b => if b = a then none else H b) (g ds) (fun v H' => v = .ref a → Q .non H') E
def runI (c : Str) (m : Nat) (body : FS) (ds : List P) : Rp := match body (some (.loc 0) :: envOf ds (m - 1)) [.ins c [] []] with
  | .nx _ S => match frz S (.loc 0) with
    | some (p, _) => .ok p
    | none => .bad
  | .rt (.val .non) S => match frz S (.loc 0) with
    | some (p, _) => .ok p
    | none => .bad
  | .ex x _ _ => .ex x
  | _ => .bad
theorem fn_init {K : PySem.W.Frag} {P' : Program} {w : World} {mg : Str → Option Value} {base : Heap} {qual : Str} {st : Stmt} {N ps : List Str} {body : FS} {dvs : List V} {kws : List (Str × V)} (F : FunD K x qual (defArgs st) (defBody st) (defScope st) dvs kws f fd) (S : FnScope N ps (defScope st)) (hN : N.length = N.length - 1 + 1) (hps : ps.length = n + 1)
    (hb : DefOk P' w K mg base CT N qual st f k body) : FnOk P' w K mg base (L2.CX P' w) (k + 1) f fd ps (spI K CT c n (runI c N.length body)) := by
  refine F.ok S (fun vs H Q E ⟨F, ds, a, dx, vs', e, _, _, _, _, hl, r, _⟩ => by rw [e, List.length_cons, r.length, hl, hps]) fun cdv A outer s H vs Q E hr hsp => ⟨_, hb cdv A s H E outer hr (takes_of rfl rfl rfl rfl) (passes_of rfl), ?_⟩
  obtain ⟨F0, ds, a, dx, vs', rfl, eF, tb, Fa, Ha, hl, r, h⟩ := hsp
  generalize hHm : (fun b => if b = a then none else H b : Hp) = Hm at h
  have aT : a ∉ CT.tabs := fun z => by
    obtain ⟨⟨ps, hp, _⟩, _⟩ := tb a z
    rw [Ha] at hp; cases hp
  have eGa : noT CT Hm a = none := by rw [noT_at aT, ← hHm]; simp
  have eG : Ex (noT CT Hm) H := fun b o e => by
    have e := noT_ex Hm b o e
    rw [← hHm] at e
    by_cases q : b = a
    · simp [q] at e
    · simpa [q] using e
  have g0 : Gd K CT ⟨noT CT Hm, F0, [a]⟩ [.ins c [] []] H := by
    refine ⟨eF, eG, rfl, fun i cl b h1 h2 => ?_, fun i j c1 c2 b h1 h2 l1 l2 e1 e2 => ?_, fun P hP => (tb P hP).1, fun P hP => (tb P hP).2, fun P hP => noT_tab hP⟩
    · cases i with
      | zero => cases h1; cases h2; exact ⟨Fa, eGa, dx, [], Ha, rfl, rfl⟩
      | succ i => simp at h1
    · cases i with
      | zero =>
        cases j with
        | zero => rfl
        | succ j => simp at h2
      | succ i => simp at h1
  have en0 : EnvOk K CT ⟨noT CT Hm, F0, [a]⟩ (some (.loc 0) :: envOf ds (N.length - 1)) (start N (.ref a :: vs')) := by
    have lz := r.length
    refine ⟨by simp [envOf, L2.start]; omega, fun i w e => ?_⟩
    cases i with
    | zero =>
      cases e
      exact ⟨.ref a, rfl, a, rfl, rfl⟩
    | succ i =>
      have e' : (envOf ds (N.length - 1))[i]? = some (some w) := by simpa using e
      have q := (envOf_ok (N := N.drop 1) (G := noT CT Hm) (m := [a]) r).get i w (by simpa using e')
      obtain ⟨v, hv, rv⟩ := q
      refine ⟨v, ?_, rv⟩
      have : start N (.ref a :: vs') = some (.ref a) :: start (N.drop 1) vs' := by
        unfold L2.start
        rw [List.map_cons, List.cons_append, List.length_cons, List.length_drop]
        congr 3
        omega
      rw [this]
      simpa using hv
  have lf : ∀ {s' : Fs} {S' : Store} {H' : Hp}, Ext ⟨noT CT Hm, F0, [a]⟩ s' → Gd K CT s' S' H' → Left CT F0 Hm s'.F H' := fun x g => ⟨x.f, by have := g.exG; rw [← x.g] at this; exact this, g.exF, x.new, g.tb⟩
  refine ⟨_, _, _, g0, en0, ?_⟩
  unfold runI at h
  have fin : ∀ {S' : Store} {s' : Fs} {H' : Hp}, Ext ⟨noT CT Hm, F0, [a]⟩ s' → Gd K CT s' S' H' → RP K CT F0 Hm (match frz S' (.loc 0) with | some (p, _) => .ok p | none => .bad) (fun v H' => v = .ref a → Q .non H') E → Q .non H' := fun {S' s' H'} x g h => by
    cases ef : frz S' (.loc 0) with
    | none => rw [ef] at h; exact h.elim
    | some q =>
      obtain ⟨p, S2⟩ := q
      rw [ef] at h
      obtain ⟨s2, x2, g2, r2⟩ := frz_ok (w := .loc 0) (v := .ref a) g ⟨a, x.m 0 a rfl, rfl⟩ ef
      exact h s2.F H' (.ref a) (lf (x.trans x2) g2) r2 rfl
  cases er : body (some (.loc 0) :: envOf ds (N.length - 1)) [.ins c [] []] with
  | nx ρ' S' => rw [er] at h; exact fun s' H' σ' x g en => fin x g h
  | rt w S' =>
    rw [er] at h
    intro s' H' v x g rv
    cases w with
    | loc n => exact h.elim
    | exc => exact h.elim
    | val p =>
      cases p with
      | non => rw [show v = _ from rv]; exact fin x g h
      | _ => exact h.elim
  | ex x ρ' S' => rw [er] at h; exact fun s' H' σ' c dd x g en q => h s'.F H' c dd (lf x g) q
  | bk ρ' S' => rw [er] at h; exact h.elim
  | ct ρ' S' => rw [er] at h; exact h.elim
  | bad => rw [er] at h; exact h.elim
/-! C(..) at the slots -/
def tMakeS (C : Addr) (sp : Sp) (E : L2.St → XK) (t : TA) : TE := fun σ H Q => t σ H fun vs H1 => ∀ x dx, H1 x = none → H1 dx = none → dx ≠ x →
  sp (.ref x :: vs) (upd (upd H1 dx (.own x)) x (.ins C dx [])) (fun v H2 => v = .non ∧ Q (.ref x) H2) (E σ)
theorem run_makeS {C : Addr} {CX : CXT} {sp : Sp} {E : L2.St → XK} {pins : List (Addr × Obj)} {σ : L2.St} {H : Hp} {s : Shared} {Q : VK} {us : List Value} {vs : List V} (M : Mk X.K C f) (F : FnOk X.prog X.w X.K X.mg X.base CX k f fd ps sp) (hr : Room (k + 1) X.A) (hb : Binds X.K fd ps [])
    (hx : ∀ σ, PassesAt CX X σ (E σ)) (I : Inv X pins σ H s) (r : Vals vs us)
    (h : ∀ x dx, H x = none → H dx = none → dx ≠ x → sp (.ref x :: vs) (upd (upd H dx (.own x)) x (.ins C dx [])) (fun v H2 => v = .non ∧ Q (.ref x) H2) (E σ)) :
    wpAny (model X.prog X.w) X.A (call (.ref C) us) (EP X pins σ Q) X.xe s := by
  have hq := h (s.heap.objs.size + 1) s.heap.objs.size (I.hok.fresh (Nat.le_succ _)) (I.hok.fresh (Nat.le_refl _)) (Nat.ne_of_lt (Nat.lt_succ_self _))
  have I2 := Inv.made (C := C) I
  have r2 : Vals (V.ref (s.heap.objs.size + 1) :: vs) (Value.ref (s.heap.objs.size + 1) :: us) := .cons rfl r
  have hl : (Value.ref (s.heap.objs.size + 1) :: us ++ []).length = ps.length := by
    have e := r2.length
    rw [F.len _ _ _ _ hq] at e
    rw [List.append_nil]
    exact e.symm
  have hbb := hb ⟨_, _, _, _, _⟩ (Value.ref (s.heap.objs.size + 1) :: us) I2.kIn hl
  rw [List.append_nil] at hbb
  refine wpAny_call (make_map (f := f) I.kIn M.makes M.init (beq_iff_eq.mp M.fn) (codeAny_mono (F.run _ X.stack _ _ ⟨Value.ref (s.heap.objs.size + 1) :: us, []⟩ (Value.ref (s.heap.objs.size + 1) :: us) _ _ (E σ) (hr.make C us [])
    (I2.env0.make C us []) hbb r2 hq) fun r s' hq' => ?_))
  cases r with
  | error e => exact hx σ pins _ _ e s' I2 hq'
  | ok fl =>
    cases fl with
    | ret u =>
      obtain ⟨v, H', I3, rv, ev, q3⟩ := I2.after hq'
      subst ev
      exact ⟨rv, ⟨V.ref (s.heap.objs.size + 1), H', I3, rfl, q3⟩⟩
    | next => exact False.elim hq'
    | brk => exact False.elim hq'
    | cont => exact False.elim hq'
theorem pe_makeS {C : Addr} {CX : CXT} {sp : Sp} {E : L2.St → XK} {t : TA} (M : Mk X.K C f) (F : FnOk X.prog X.w X.K X.mg X.base CX k f fd ps sp) (hr : Room (k + 1) X.A) (hg : Gl X x) (hm : X.mg x = some (.ref C)) (hb : Binds X.K fd ps []) (hx : ∀ σ, PassesAt CX X σ (E σ))
    (ha : PA X (e :: es) t) (hdb : (x == ("__debug__" : Str)) = false := by decide) (he : starEach (e :: es) X.env = (false, eval e X.env) :: starEach es X.env := by rfl) (hpl : (backTo pos (starEach es X.env)).any (·.1) = false := by rfl) :
    PE X (.Call (.Name x p) (e :: es) [] pos) (tMakeS C sp E t) := by
  refine ⟨fun pins s σ H Q I h => ?_⟩
  refine wpAny_Call_Name_kw (ld_glob I hg hm ?_ hdb)
  refine PySem.W.callWith_K (h₀ := X.base) I.ok.mod.kin M.kp (thn (ha.run pos pins s σ H _ I h) fun us s1 ⟨vs, H1, I1, r, q⟩ => ⟨I1.kIn, ?_⟩) he hpl
  exact run_makeS M F hr hb hx I1 r q
theorem pz_new (M : Mk X.K (CT c) f) (F : FnOk X.prog X.w X.K X.mg X.base (L2.CX X.prog X.w) k f fd ps (spI X.K CT c n g)) (hr : Room (k + 1) X.A) (hg : Gl X x) (hm : X.mg x = some (.ref (CT c))) (hb : Binds X.K fd ps []) (tk : Takes X U)
    (ha : PZA X CT U (e :: es) ga) (hdb : (x == ("__debug__" : Str)) = false := by decide) (he : starEach (e :: es) X.env = (false, eval e X.env) :: starEach es X.env := by rfl) (hpl : (backTo pos (starEach es X.env)).any (·.1) = false := by rfl) :
    PZ X CT U (.Call (.Name x p) (e :: es) [] pos) (eCall n g ga) := weakE (pe_makeS M F hr hg hm hb (fun σ => passAt tk σ) ha hdb he hpl) fun σ H Q ⟨s, S, ρ, gd, en, h⟩ =>
  ⟨s, S, ρ, gd, en, RG.step h fun ws S1 s1 H1 vs x1 g1 r1 h1 => by
    obtain ⟨ps, S2, s2, x2, g2, r2, h2⟩ := RG.frzs g1 r1 h1
    split at h2
    · rename_i hl
      intro a dx ha hdx hne
      have hb := RG.call g2 h2
      have eH : Ex H1 (upd (upd H1 dx (.own a)) a (.ins (CT c) dx [])) := fun b o e => by rw [upd_ne (ne_of_none e ha), upd_ne (ne_of_none e hdx)]; exact e
      refine ⟨s2.F, ps, a, dx, vs, rfl, g2.exF.trans eH, (fun P hP => ⟨tab_ex eH (g2.tab P hP), g2.notF P hP⟩), g2.exF.back ha, upd_same, hl, r2, ?_⟩
      have lf : ∀ {F' H' : Hp}, Left CT s2.F (fun b => if b = a then none else upd (upd H1 dx (.own a)) a (.ins (CT c) dx []) b) F' H' → Left CT s2.F H1 F' H' := fun l => by
        have key : ∀ b o, noT CT H1 b = some o → noT CT (fun b => if b = a then none else upd (upd H1 dx (.own a)) a (.ins (CT c) dx []) b) b = some o := fun b o e => by
          have nt : b ∉ CT.tabs := fun z => by rw [noT_tab z] at e; cases e
          rw [noT_at nt] at e ⊢
          have := ne_of_none e ha
          rw [if_neg this]; exact eH b o e
        exact ⟨l.f, fun b o e => l.h b o (key b o e), l.fh, fun b q1 q2 => l.new b q1 (by
          cases e : noT CT H1 b with
          | none => exact absurd e q2
          | some o => rw [key b o e]; simp), l.tab⟩
      cases er : g ps with
      | ok q =>
        rw [er] at hb
        intro F' H' v l rv e
        subst e
        exact ⟨rfl, hb F' H' _ (lf l) rv⟩
      | ex x => rw [er] at hb; exact fun F' H' c dd l rv => hb F' H' c dd (lf l) rv
      | bad => rw [er] at hb; exact hb.elim
    · exact h2.elim⟩
/-! ### raise X("..") of an own class without __init__ -/
def sRaise (c : Str) : FS := fun ρ S => .ex ⟨c, [], []⟩ ρ S
theorem zs_raise {W : WX} (hc : X.calm = true) (tk : Takes X U) (he : PMk X e (fun _ H Q => Q (.ref (CT c)) none H)) : PZS X CT U (.Raise (some e) none pos) (sRaise c) := weakS (ps_raise hc tk he) fun D σ H ⟨s, S, ρ, gd, en, h⟩ =>
  h s H σ _ _ (Ext.refl s) gd en ⟨rfl, .inl ⟨rfl, rfl, rfl⟩⟩
end
end Z
end
-- part Z9
section
set_option Elab.async false
set_option linter.all false
set_option maxRecDepth 100000
set_option autoImplicit false
namespace Z
open PySem PySem.Spec PyProof.Rows L2
/-! ### isinstance against a built-in type -/
def tyN : P → Option String
  | .non => some "NoneType"
  | .bl _ => some "bool"
  | .int _ => some "int"
  | .str _ => some "str"
  | .tup _ => some "tuple"
  | .lst _ => some "list"
  | .scr _ => some "list"
  | _ => none
def tyW (S : Store) : W → Option String
  | .val p => tyN p
  | .loc n => match S[n]? with
    | some (.lst _) => some "list"
    | some (.frz (.lst _)) => some "list"
    | _ => none
  | .exc => none
def isi (t T : String) : Bool := t == T || (t == "bool" && T == "int")
def isiW (T : String) : W → Store → RE W := fun w S => orBad ((tyW S w).map fun t => .val (.bl (isi t T))) S
def KitT (T : String) : Prop := ∀ t ∈ ["NoneType", "bool", "int", "str", "tuple", "list"], kitB t T = some (isi t T)
theorem kit_bool : KitT "bool" := by unfold KitT; decide +kernel
theorem kit_int : KitT "int" := by unfold KitT; decide +kernel
theorem kit_str : KitT "str" := by unfold KitT; decide +kernel
theorem kit_list : KitT "list" := by unfold KitT; decide +kernel
theorem kit_tuple : KitT "tuple" := by unfold KitT; decide +kernel
theorem kit_dict : KitT "dict" := by unfold KitT; decide +kernel
section
variable {X : Cx} {CT : CTb} {U : WX} {a : Expr} {fa : FE W} {pos p p2 : Pos} {T : Str} {TN : String}
theorem tyW_ok {K : PySem.W.Frag} {s : Fs} {S : Store} {H : Hp} (g : Gd K CT s S H) {w : W} {v : V} {t : String} (r : RepW K CT s w v) (e : tyW S w = some t) : TyX K H v (.type t) ∧ t ∈ ["NoneType", "bool", "int", "str", "tuple", "list"] := by
  cases w with
  | val p =>
    cases p with
    | non => cases e; rw [show v = _ from r]; exact ⟨.base .non, by decide⟩
    | bl b => cases e; rw [show v = _ from r]; exact ⟨.base (.bl b), by decide⟩
    | int b => cases e; rw [show v = _ from r]; exact ⟨.base (.int b), by decide⟩
    | str b => cases e; rw [show v = _ from r]; exact ⟨.base (.str b), by decide⟩
    | tup ps =>
      cases e
      obtain ⟨a, vs, rfl, h1, _⟩ := r
      refine ⟨?_, by decide⟩
      rcases g.exF.st h1 with (h | ⟨o, h⟩) | ⟨o, its, n, h, hc, _⟩
      · exact .base (.tup h)
      · exact .fTuple h
      · exact .kTuple h hc
    | lst ps => cases e; obtain ⟨a, vs, rfl, h1, _⟩ := r; exact ⟨.base (.lst (g.exF _ _ h1)), by decide⟩
    | scr ns =>
      cases e
      obtain ⟨a, rfl, h1⟩ := r
      refine ⟨?_, by decide⟩
      rcases g.exF.sl h1 with (h | ⟨o, h⟩) | ⟨o, its, n, h, hc, _⟩
      · exact .base (.lst h)
      · exact .base (.frz h)
      · exact .kList h hc
    | _ => cases e
  | exc => cases e
  | loc n =>
    obtain ⟨a, h1, rfl⟩ := r
    unfold tyW at e
    cases hc : S[n]? with
    | none => simp [hc] at e
    | some c =>
      have q := g.cells n _ a hc h1
      cases c with
      | ins c ns ws => simp [hc] at e
      | dct c ws => simp [hc] at e
      | dcu c ws => simp [hc] at e
      | lst ws' => simp only [hc] at e; cases e; obtain ⟨_, _, vs, q3, q4⟩ := q; exact ⟨.base (.lst q3), by decide⟩
      | frz p =>
        cases p with
        | lst ps => simp only [hc] at e; cases e; obtain ⟨b, vs, hb, q3, q4⟩ := q; cases hb; exact ⟨.base (.lst (g.exF _ _ q3)), by decide⟩
        | _ => simp [hc] at e
theorem pz_isi (hk : KitT TN) (hg : Gl X "isinstance") (hm : X.mg "isinstance" = none) (hgT : Gl X T) (hmT : X.mg T = none) (hvT : bootBuiltins T = some (.type TN)) (ha : PZ X CT U a fa) (hT : T ≠ "__name__" := by decide) (hTd : (T == ("__debug__" : Str)) = false := by decide)
    (he : starEach [a, .Name T p2] X.env = (false, eval a X.env) :: starEach [.Name T p2] X.env := by rfl) : PZ X CT U (.Call (.Name "isinstance" p) [a, .Name T p2] [] pos) (eUn (isiW TN) fa) :=
  weakE (pe_callB call_isi hg hm (by decide +kernel) (pa_cons ha (pa_cons (pe_bltn (v := .ty TN) hgT hmT hvT rfl hT hTd) pa_nil (by rfl)) he) (by decide) (by decide) he (by rfl)) fun σ H Q ⟨s, S, ρ, gd, en, h⟩ =>
  ⟨s, S, ρ, gd, en, RG.step h fun w S1 s1 H1 v x1 g1 r1 h1 => by
    obtain ⟨u, e, h1⟩ := RG.orBad h1
    simp only [Option.map_eq_some_iff] at e
    obtain ⟨t, e, rfl⟩ := e
    obtain ⟨ty, ht⟩ := tyW_ok g1 r1 e
    exact ⟨v, .ty TN, .type t, .type TN, isi t TN, rfl, .ty TN, ty, kit_ty (hk t ht), RG.here h1 g1 rfl⟩⟩
end
end Z
end
-- part Z10
section
set_option Elab.async false
set_option linter.all false
set_option maxRecDepth 100000
set_option autoImplicit false
namespace Z
open PySem PySem.Spec PyProof.Rows L2

/-! ### targets in the text -/
section
variable {X : Cx} {CT : CTb} {U : WX} {pos : Pos}
theorem zg_name (i : Nat) {x : Str} (hN : X.N.Nodup) (hi : X.N[i]? = some x := by rfl) (hx : Loc X.env.scope x := by first | exact Or.inl rfl | exact Or.inr rfl) (hf : X.fn x = true ∨ X.env.scope.names.lookup x = some .local := by first | exact .inl rfl | exact .inr rfl | assumption) :
    PG X (.Name x pos) (tgG X.K (.nm i)) := pg_name hN hi hx hf
abbrev ZGs (X : Cx) (es : List Expr) (ts : List Tg) : Prop := PGs X es (tgGs X.K ts)
theorem zgs_nil : ZGs X [] [] := pgs_nil
theorem zgs_cons {e : Expr} {es : List Expr} {t : Tg} {ts : List Tg} (h1 : PG X e (tgG X.K t)) (h2 : ZGs X es ts) (hs : (assignEach (e :: es) X.env).map (·.2) = assign e X.env :: (assignEach es X.env).map (·.2) := by rfl) : ZGs X (e :: es) (t :: ts) := pgs_cons h1 h2 hs
theorem zg_tup {es : List Expr} {ts : List Tg} {k : Nat} (hc : X.calm = true) (h : ZGs X es ts) (hn : (assignEach es X.env).length = ts.length := by rfl) (hst : (assignEach es X.env).findIdx? (·.1) = none := by rfl) : PG X (.Tuple es k pos) (tgG X.K (.tp ts)) := pg_tup hc h hn hst
theorem tk0 : Takes X U0 := takes0
end

/-! ### a def, called by its name -/
def CallF (P' : Program) (w : World) (K : PySem.W.Frag) (mg : Str → Option Value) (base : Heap) (CT : CTb) (x : Str) (n k : Nat) (g : List P → Rp) : Prop :=
  ∃ f fd ps, FnOk P' w K mg base (L2.CX P' w) k f fd ps (spP K CT n g) ∧ mg x = some (.ref f) ∧ PySem.W.keepIn K (.ref f) = true ∧ Binds K fd ps []
def MethF (P' : Program) (w : World) (K : PySem.W.Frag) (mg : Str → Option Value) (base : Heap) (CT : CTb) (c m : Str) (n k : Nat) (g : List P → Rp) : Prop :=
  ∃ f fd ps, FnOk P' w K mg base (L2.CX P' w) k f fd ps (spP K CT n g) ∧ Meth K (CT c) m f ∧ Binds K fd ps [] ∧ Cls K (CT c)
def NewF (P' : Program) (w : World) (K : PySem.W.Frag) (mg : Str → Option Value) (base : Heap) (CT : CTb) (c : Str) (n k : Nat) (g : List P → Rp) : Prop :=
  ∃ f fd ps, FnOk P' w K mg base (L2.CX P' w) k f fd ps (spI K CT c n g) ∧ Mk K (CT c) f ∧ mg c = some (.ref (CT c)) ∧ Binds K fd ps []
section
variable {X : Cx} {CT : CTb} {U : WX} {e o : Expr} {es : List Expr} {fo : FE W} {ga : FE (List W)} {pos p apos : Pos} {x m c : Str} {k j n : Nat} {g : List P → Rp}
theorem pz_callF (C : CallF X.prog X.w X.K X.mg X.base CT x n k g) (hr : Room j X.A) (hjk : k ≤ j) (hg : Gl X x) (tk : Takes X U)
    (ha : PZA X CT U (e :: es) ga) (hdb : (x == ("__debug__" : Str)) = false := by decide) (he : starEach (e :: es) X.env = (false, eval e X.env) :: starEach es X.env := by rfl) (hpl : (backTo pos (starEach es X.env)).any (·.1) = false := by rfl) :
    PZ X CT U (.Call (.Name x p) (e :: es) [] pos) (eCall n g ga) := by
  obtain ⟨f, fd, ps, F, h1, h2, h3⟩ := C
  exact pz_call F (hr.mono hjk) hg h1 h2 h3 tk ha hdb he hpl
theorem pz_newF (C : NewF X.prog X.w X.K X.mg X.base CT x n k g) (hr : Room j X.A) (hjk : k + 1 ≤ j) (hg : Gl X x) (tk : Takes X U)
    (ha : PZA X CT U (e :: es) ga) (hdb : (x == ("__debug__" : Str)) = false := by decide) (he : starEach (e :: es) X.env = (false, eval e X.env) :: starEach es X.env := by rfl) (hpl : (backTo pos (starEach es X.env)).any (·.1) = false := by rfl) :
    PZ X CT U (.Call (.Name x p) (e :: es) [] pos) (eCall n g ga) := by
  obtain ⟨f, fd, ps, F, h1, h2, h3⟩ := C
  exact pz_new h1 F (hr.mono hjk) hg h2 h3 tk ha hdb he hpl
theorem pz_methF {pl : Sem Bool} (C : MethF X.prog X.w X.K X.mg X.base CT c m n k g) (hr : Room j X.A) (hjk : k ≤ j) (tk : Takes X U) (ho : PZ X CT U o fo) (ha : PZA X CT U (e :: es) ga)
    (hst : starEach (e :: es) X.env = (false, eval e X.env) :: starEach es X.env := by rfl) (hpl : (backTo pos (starEach es X.env)).any (·.1) = false := by rfl)
    (ht : eval (.Call (.Attribute o m apos) (e :: es) [] pos) X.env = (do
      let ov ← eval o X.env
      standAt apos.atName
      let (f, first) ← holding [ov] (getMethod ov m pl)
      callWith pos f first (backTo pos (starEach (e :: es) X.env)) (backToKw pos (keywordEach [] X.env))) := by rfl) : PZ X CT U (.Call (.Attribute o m apos) (e :: es) [] pos) (eMeth c m n g fo ga) := by
  obtain ⟨f, fd, ps, F, h1, h2, h3⟩ := C
  exact pz_meth (pl := pl) h3 h1 F (hr.mono hjk) h2 tk ho ha hst hpl ht
theorem pz_methF0 {pl : Sem Bool} (C : MethF X.prog X.w X.K X.mg X.base CT c m n k g) (hr : Room j X.A) (hjk : k ≤ j) (tk : Takes X U) (ho : PZ X CT U o fo)
    (ht : eval (.Call (.Attribute o m apos) [] [] pos) X.env = (do
      let ov ← eval o X.env
      standAt apos.atName
      let (f, first) ← holding [ov] (getMethod ov m pl)
      callWith pos f first (backTo pos (starEach [] X.env)) (backToKw pos (keywordEach [] X.env))) := by rfl) : PZ X CT U (.Call (.Attribute o m apos) [] [] pos) (eMeth c m n g fo aNil) := by
  obtain ⟨f, fd, ps, F, h1, h2, h3⟩ := C
  exact pz_meth0 (pl := pl) h3 h1 F (hr.mono hjk) h2 tk ho ht
/-! ### exceptions of the program -/
structure ExcF (K : PySem.W.Frag) (mg : Str → Option Value) (CT : CTb) (c : Str) : Prop where
  x : PySem.W.excIn K (CT c) [.type "ValueError", .type "Exception", .type "BaseException", .type "object"] "ValueError.__new__" = true
  g : mg c = some (.ref (CT c))
  k : PySem.W.keepIn K (.ref (CT c)) = true
  b : PySem.W.subIn K (.ref (CT c)) (.type "BaseException") = some true
  t : PySem.W.typeIn K (.ref (CT c)) = some (.type "type")
theorem zs_raiseF {mm : Str} {jj : Nat} {p2 : Pos} (E : ExcF X.K X.mg CT x) (hc : X.calm = true) (tk : Takes X U) (hg : Gl X x) (hdb : (x == ("__debug__" : Str)) = false := by decide) :
    PZS X CT U (.Raise (some (.Call (.Name x p) [.Constant (.str mm) jj p2] [] apos)) none pos) (sRaise x) :=
  zs_raise (W := U) hc tk (pmk_own PySem.F.excBase_ValueError E.x E.g E.k (raises_own E.b E.t) hg hdb)
/-! ### try .. except X: .. (several clauses, no names) -/
def tryGo (M : Str → Str → Option Bool) : List (Str × FS) → Xn → Env → Store → R
  | [], x, ρ, S => .ex x ρ S
  | (c, f) :: hs, x, ρ, S => match M x.cls c with
    | some true => match f ρ S with
      | .ex _ _ _ => .bad
      | r => r
    | some false => tryGo M hs x ρ S
    | none => .bad
def sTry (M : Str → Str → Option Bool) (body : FS) (hs : List (Str × FS)) : FS := fun ρ S => match body ρ S with
  | .ex x ρ' S' => tryGo M hs x ρ' S'
  | r => r
def ExmF (K : PySem.W.Frag) (CT : CTb) (M : Str → Str → Option Bool) : Prop := ∀ r c b, M r c = some b → PySem.W.exmOne K (.ref (CT r)) (.ref (CT c)) = some b
abbrev hdl (K : PySem.W.Frag) (CT : CTb) (hs : List (Str × FS)) : List (Value × (Addr → Value → Option Addr → TS)) := hs.map fun q => (.ref (CT q.1), fun _ _ _ => canS K CT U0 q.2)
theorem try_wish {K : PySem.W.Frag} {M : Str → Str → Option Bool} (hM : ExmF K CT M) {s : Fs} {x : Xn} {ρ : Env} {S : Store} {D : Ends} : ∀ {hs : List (Str × FS)}, RS K CT s (tryGo M hs x ρ S) D U → RS K CT s (.ex x ρ S) D (wMany K U D (hdl K CT hs))
  | [], h => h
  | (c, f) :: hs, h => by
    intro s' H' σ' cv dd x1 g en rx
    have hc : cv = .ref (CT x.cls) := rx.1
    unfold tryGo at h
    cases em : M x.cls c with
    | none => rw [em] at h; exact h.elim
    | some b =>
      rw [em] at h
      refine ⟨b, by rw [hc]; exact hM _ _ _ em, fun hb a ha => ?_, fun hb => ?_⟩
      · subst hb
        refine ⟨s', S, ρ, g, en, ?_⟩
        have h := RS.ext x1 h
        cases ef : f ρ S with
        | ex x2 ρ2 S2 => rw [ef] at h; exact h.elim
        | nx ρ2 S2 => rw [ef] at h; show RS K CT s' (f ρ S) D U0; rw [ef]; exact h
        | bk ρ2 S2 => rw [ef] at h; show RS K CT s' (f ρ S) D U0; rw [ef]; exact h
        | ct ρ2 S2 => rw [ef] at h; show RS K CT s' (f ρ S) D U0; rw [ef]; exact h
        | rt ρ2 S2 => rw [ef] at h; show RS K CT s' (f ρ S) D U0; rw [ef]; exact h
        | bad => rw [ef] at h; show RS K CT s' (f ρ S) D U0; rw [ef]; exact h
      · subst hb
        exact try_wish hM h s' H' σ' cv dd x1 g en rx
theorem try_can {K : PySem.W.Frag} {M : Str → Str → Option Bool} (hM : ExmF K CT M) {body : FS} {hs : List (Str × FS)} {D : Ends} {σ : L2.St} {H : Hp} (h : canS K CT U (sTry M body hs) D σ H) : canS K CT (wMany K U D (hdl K CT hs)) body D σ H := by
  obtain ⟨s, S, ρ, g, en, h⟩ := h
  refine ⟨s, S, ρ, g, en, ?_⟩
  unfold sTry at h
  cases ef : body ρ S with
  | ex x2 ρ2 S2 => rw [ef] at h; exact try_wish hM h
  | nx ρ2 S2 => rw [ef] at h; exact h
  | bk ρ2 S2 => rw [ef] at h; exact h
  | ct ρ2 S2 => rw [ef] at h; exact h
  | rt ρ2 S2 => rw [ef] at h; exact h
  | bad => rw [ef] at h; exact h
theorem zs_try {M : Str → Str → Option Bool} {body : List Stmt} {h₀ : ExceptHandler} {hds : List ExceptHandler} {fb : FS} {hs : List (Str × FS)} (hM : ExmF X.K CT M) (hst : X.stack = X.env :: X.outer) (hf : X.env.frame = some X.env.locals) (tk : Takes X U)
    (hb : ∀ (W : WX) (pn : List (Addr × Obj)) (xe : Value → Shared → Prop), Takes (X.tr pn xe) W → PassesOwn (model X.prog X.w) X.A X.env xe → PZSs (X.tr pn xe) CT W body fb)
    (hh : HdsOk X (h₀ :: hds) (hdl X.K CT hs)) : PZS X CT U (.Try body (h₀ :: hds) [] [] pos) (sTry M fb hs) :=
  weakS (ps_try_many (tb := fun W => canS X.K CT W fb) (l := hdl X.K CT hs) hst hf tk hb hh) fun D σ H h => try_can hM h
theorem zh_nil : HdsOk X [] (hdl X.K CT []) := .nil
theorem zh_cons {b₀ : Stmt} {suite : List Stmt} {np pos' : Pos} {hds : List ExceptHandler} {hs : List (Str × FS)} {f : FS} (hg : Gl X x) (hm : X.mg x = some (.ref (CT x)))
    (hsu : ∀ (a : Addr) (oe : Obj) (cls : Value) (d : Option Addr) (pn : List (Addr × Obj)), PZSs (X.suite a ((a, oe) :: pn)) CT U0 (b₀ :: suite) f) (r : HdsOk X hds (hdl X.K CT hs)) (hdb : (x == ("__debug__" : Str)) = false := by decide) :
    HdsOk X (.ExceptHandler (some (.Name x np)) none (b₀ :: suite) pos' :: hds) (hdl X.K CT ((x, f) :: hs)) := .cons ⟨hg, hdb, .inl hm⟩ (fun a oe cls d pn _ _ => hsu a oe cls d pn) r
end
theorem fn_bad {K : PySem.W.Frag} {CT : CTb} {P' : Program} {w : World} {mg : Str → Option Value} {base : Heap} {x qual : Str} {st : Stmt} {f : Addr} {fd : FuncData} {N ps : List Str} {k n : Nat} {dvs : List V} {kws : List (Str × V)} (F : FunD K x qual (defArgs st) (defBody st) (defScope st) dvs kws f fd) (S : FnScope N ps (defScope st)) :
    FnOk P' w K mg base (L2.CX P' w) (k + 1) f fd ps (spP K CT n (fun _ => .bad)) :=
  F.ok S (fun vs H Q E ⟨_, _, _, _, _, _, h⟩ => h.elim) fun cdv A outer s H vs Q E hr ⟨_, _, _, _, _, _, h⟩ => h.elim
theorem CallF.mono {P' : Program} {w : World} {K : PySem.W.Frag} {mg : Str → Option Value} {base : Heap} {CT : CTb} {x : Str} {n k k' : Nat} {g : List P → Rp} (h : CallF P' w K mg base CT x n k g) (hk : k ≤ k') : CallF P' w K mg base CT x n k' g :=
  let ⟨f, fd, ps, F, r⟩ := h
  ⟨f, fd, ps, F.mono hk, r⟩
end Z
namespace Z
open PySem PySem.Spec PyProof.Rows L2
section
variable {X : Cx} {CT : CTb} {U : WX} {elt tg iter : Expr} {ifs : List Expr} {scope : Scope} {own : List (Str × Nat)} {pos spos py : Pos} {fi : FI} {t : Tg} {c : FE Bool} {e : FE W} {y : Str}
theorem zs_setLc (i : Nat) (hc : X.calm = true) (hN : X.N.Nodup) (hi : PZI X CT U tg iter fi) (ok : BlkOk X.N X.env.scope scope own)
    (hg : ∀ (s : Shared) (H : Hp) (C : Addr) (cl : List (Str × Addr)) (fp : List Addr), PG (X.blk s H scope (compEnvC scope cl C X.env) fp) tg (tgG X.K t)) (ht : ∀ (s : Shared) (H : Hp) (C : Addr) (cl : List (Str × Addr)) (fp : List Addr), PTs (X.blk s H scope (compEnvC scope cl C X.env) fp) ifs (canT X.K CT U0 c))
    (he : ∀ (s : Shared) (H : Hp) (C : Addr) (cl : List (Str × Addr)) (fp : List Addr), PE (X.blk s H scope (compEnvC scope cl C X.env) fp) elt (canE X.K CT U0 e)) (hsl : ∀ i ∈ slots t, i ∈ own.map (·.2)) (hsw : swapsWith (.ListComp elt [⟨tg, iter, ifs, 0⟩] scope pos) (some (.Name y py)) spos.line X.env = pure true)
    (hy : X.N[i]? = some y := by rfl) (hyl : X.env.scope.names.lookup y = some .local := by rfl) (hs : ∀ x, foldedSetIterable iter X.env x = pure x := by intro _; rfl) :
    PZS X CT U (.Assign [.Name y py] (.ListComp elt [⟨tg, iter, ifs, 0⟩] scope pos) spos) (sAsg i (eLc fi (own.map (·.2)) t c e)) := weakS (ps_setLc hc hN hy hyl hsw hi ok hg ht he hs) fun D σ H ⟨s, S, ρ, gd, en, h⟩ =>
  ⟨s, S, ρ, gd, en, RS.step (r := fi ρ S) (k := fun ps S1 => RE.toR (if ps.length ≤ 100000 then (lcGo (own.map (·.2)) t c e ρ ps S1).bind fun qs S2 => .ok (.val (.lst qs)) S2 else .bad) ρ fun w S' => .nx (ρ.set i (some w)) S') (by
      unfold sAsg eLc at h
      cases er : fi ρ S with
      | ok a S => rw [er] at h; exact h
      | ex a S => rw [er] at h; exact h
      | bad => rw [er] at h; exact h) en fun ps S1 s1 H1 J x1 g1 w1 h1 D0 hD => by
    split at h1
    · rename_i hsz
      exact lc_go g1 (en.mono x1) hD hsz hsl w1 (RS.step h1 (en.mono x1) fun w S2 s2 H2 v x2 g2 r2 h2 => RS.here h2 g2 (((en.mono x1).mono x2).set r2))
    · exact h1.elim⟩
theorem ipz_sub {K : PySem.W.Frag} : IpZ K CT (ipI fun i j => i - j) subW := ipz_int (fun i j S => rfl) (fun a b S => by
  unfold subW iOp
  split
  · rename_i i j; exact .inl ⟨i, j, rfl, rfl⟩
  · exact .inr rfl)
abbrev iaddW : O2 := iOp (fun _ _ => true) fun i j => .int (i + j)
theorem ipz_add {K : PySem.W.Frag} : IpZ K CT (ipI fun i j => i + j) iaddW := ipz_int (fun i j S => rfl) (fun a b S => by
  unfold iaddW iOp
  split
  · rename_i i j; exact .inl ⟨i, j, rfl, rfl⟩
  · exact .inr rfl)
theorem glo_int {K : PySem.W.Frag} {mg : Str → Option Value} {x : Str} {i : Int} (h : ∃ t, mg x = some (.int i t)) : GloOk K CT mg x (.int i) := let ⟨t, e⟩ := h; ⟨_, .int i, e, ⟨t, rfl⟩, rfl⟩
theorem glo_str {K : PySem.W.Frag} {mg : Str → Option Value} {x z : Str} (h : ∃ t, mg x = some (.str z t)) : GloOk K CT mg x (.str z) := let ⟨t, e⟩ := h; ⟨_, .str z, e, ⟨t, rfl⟩, rfl⟩
/-- a tuple of texts and numbers at the top -/
def DvP : List He.Dv → List P
  | [] => []
  | .int i :: r => .int i :: DvP r
  | .str x :: r => .str x :: DvP r
  | _ :: r => DvP r
end
end Z
end
-- part ZG
section
set_option Elab.async false
set_option linter.all false
set_option maxRecDepth 100000
set_option autoImplicit false
namespace Z
open PySem PySem.Spec PyProof.Rows L2
/-! ### all, any of a generator expression -/
def agGo (sb : Bool) (t : Tg) (e : FE W) (ρ : Env) : List P → Store → RE Bool
  | [], S => .ok (!sb) S
  | p :: ps, S => match bindT t p ρ with
    | none => .bad
    | some ρ1 => (noEx (e ρ1 S)).bind fun w S1 => (asB w S1).bind fun k S2 => if k = sb then .ok sb S2 else agGo sb t e ρ ps S2
def eAG (sb : Bool) (fi : FI) (vs : List Nat) (t : Tg) (e : FE W) : FE W := fun ρ S => (fi ρ S).bind fun ps S1 => (agGo sb t e (wipeE ρ vs) ps S1).bind fun k S2 => .ok (.val (.bl k)) S2
section
variable {K : PySem.W.Frag} {CT : CTb} {s : Fs} {S : Store} {H H' : Hp} {P : Addr}
theorem Gd.tabbed (g : Gd K CT s S H) (hP : P ∈ CT.tabs) (t : GxR.Tabbed P H H') : Gd K CT s S H' := by
  obtain ⟨t1, t2⟩ := t
  have cn : ∀ a o, H a = some o → (∀ ps, o ≠ .tbl ps) → H' a = some o := fun a o h n => by
    have : a ≠ P := fun z => by
      obtain ⟨ps, hp, _⟩ := g.tab P hP
      rw [z, hp] at h; cases h; exact n ps rfl
    rw [t2 a this]; exact h
  have ne : ∀ {X : Hp} {a : Addr} {o : HO}, X P = none → X a = some o → a ≠ P := fun h e z => by rw [z, h] at e; cases e
  refine ⟨fun a o e => by rw [t2 a (ne (g.notF P hP) e)]; exact g.exF a o e, fun a o e => by rw [t2 a (ne (g.notG P hP) e)]; exact g.exG a o e, g.len, fun n c a h1 h2 => ?_, g.inj, fun Q hQ => ?_, g.notF, g.notG⟩
  · have q := g.cells n c a h1 h2
    cases c with
    | lst ws => obtain ⟨q1, q2, vs, q3, q4⟩ := q; exact ⟨q1, q2, vs, cn _ _ q3 (fun ps z => by cases z), q4⟩
    | dct ks ws => obtain ⟨q1, q2, vs, q3, ql, q4⟩ := q; exact ⟨q1, q2, vs, cn _ _ q3 (fun ps z => by cases z), ql, q4⟩
    | dcu ks ws => obtain ⟨q1, q2, vs, q3, ql, q4⟩ := q; exact ⟨q1, q2, vs, cn _ _ q3 (fun ps z => by cases z), ql, q4⟩
    | ins c ns ws => obtain ⟨q1, q2, dx, vs, q3, ql, q4⟩ := q; exact ⟨q1, q2, dx, vs, cn _ _ q3 (fun ps z => by cases z), ql, q4⟩
    | frz p => exact q
  · by_cases h : Q = P
    · rw [h]; exact t1
    · obtain ⟨ps, h1, h2⟩ := g.tab Q hQ
      exact ⟨ps, by rw [t2 Q h]; exact h1, h2⟩
end
section
variable {X : Cx} {CT : CTb} {U : WX} {elt tg iter : Expr} {scope : Scope} {own : List (Str × Nat)} {p pos gpos : Pos} {fi : FI} {t : Tg} {e : FE W} {c P : Addr} {k : Nat}
theorem ag_go {s1 : Fs} {S1 : Store} {H1 : Hp} {ρ : Env} {σ : L2.St} {ps : List Z.P} {J : It} {Q : VK} {vs : List Nat} {sb : Bool} {EX : Value → Option Addr → Hp → Prop} (g1 : Gd X.K CT s1 S1 H1) (en : EnvOk X.K CT s1 ρ σ) (hsl : ∀ i ∈ slots t, i ∈ vs) (w : WalkP X.K CT s1.F ps J)
    (h : RG X.K CT (RepW X.K CT) s1 ((agGo sb t e (wipeE ρ vs) ps S1).bind fun k S2 => .ok (.val (.bl k)) S2) Q EX) :
    ∃ W : Nat → Nat → Hp → Prop, (∃ m, W 0 m H1) ∧ GX.WalkG J (tgG X.K t) (canE X.K CT U0 e) (L2.wipe σ vs) vs sb Q W := by
  obtain ⟨G, Y, wk, hG, hY⟩ := w
  refine ⟨fun i m H => m = ps.length - i ∧ i ≤ ps.length ∧ ∃ s S, Ext s1 s ∧ Gd X.K CT s S H ∧ RG X.K CT (RepW X.K CT) s ((agGo sb t e (wipeE ρ vs) (ps.drop i) S).bind fun k S2 => .ok (.val (.bl k)) S2) Q EX, ⟨_, rfl, Nat.zero_le _, s1, S1, Ext.refl _, g1, by rw [List.drop_zero]; exact h⟩, ⟨?_⟩⟩
  rintro i m H ⟨rfl, hi, s, S, x0, g, h⟩
  have hGH := hG H (x0.f.trans g.exF)
  by_cases hlt : i < ps.length
  · refine .inr ⟨wk.goes i H hlt hGH, fun x H' y => ?_⟩
    obtain ⟨p, ep, yo⟩ := hY i H x H' hlt (x0.f.trans g.exF) (wk.yields i H x H' hlt hGH y)
    rw [lc_turn ep] at h
    obtain ⟨s2, x2, g2, rp⟩ : ∃ s', Ext s s' ∧ Gd X.K CT s' S H' ∧ RepP X.K CT s'.F p x := by
      rcases yo with ⟨rfl, rp⟩ | ⟨T, o, hT, rfl, rp⟩
      · exact ⟨s, Ext.refl _, g, rp.mono x0.f⟩
      · obtain ⟨g', x'⟩ := g.newF hT o
        exact ⟨_, x', g', rp _ (x0.f.trans x'.f) upd_same⟩
    have h := RG.ext x2 h
    unfold agGo at h
    cases eb : bindT t p (wipeE ρ vs) with
    | none => rw [eb] at h; exact h.elim
    | some ρ1 =>
      rw [eb] at h
      have en2 : EnvOk X.K CT s2 (wipeE ρ vs) (L2.wipe σ vs) := ((en.mono x0).mono x2).wipe vs
      refine bind_ok t g2.exF rp en2 eb fun σ2 en3 hw => ⟨(hw vs hsl).trans (GX.wipe_wipe σ vs), ?_⟩
      simp only [RE.bind_bind] at h
      refine ⟨s2, S, ρ1, g2, en3, RG.runN h fun w S3 s3 H3 yv er x3 g3 rw h3 => ?_⟩
      cases w with
      | loc n => exact h3.elim
      | exc => exact h3.elim
      | val pw =>
        cases pw with
        | bl kb =>
          refine ⟨kb, rw, ?_⟩
          have h4 : RG X.K CT (RepW X.K CT) s3 ((if kb = sb then RE.ok sb S3 else agGo sb t e (wipeE ρ vs) (ps.drop (i + 1)) S3).bind fun k S2 => .ok (.val (.bl k)) S2) Q EX := RG.ext x3 h3
          by_cases hk : kb = sb
          · subst hk
            rw [if_pos rfl] at h4
            exact .inl ⟨rfl, RG.here h4 g3 rfl⟩
          · rw [if_neg hk] at h4
            refine .inr ⟨by cases kb <;> cases sb <;> simp_all, ps.length - (i + 1), by omega, rfl, hlt, s3, S3, (x0.trans x2).trans x3, g3, h4⟩
        | _ => exact h3.elim
  · have ei : i = ps.length := by omega
    subst ei
    rw [List.drop_length] at h
    exact .inl ⟨wk.stops H hGH, RG.here h g rfl⟩
theorem pz_allG (hr : Room (k + 1) X.A) (hc : X.calm = true) (hN : X.N.Nodup) (hg : Gl X "all") (hm : X.mg "all" = none) (TB : GxR.TabB X.base X.mg c P) (hcode : X.env.code = .ref c) (hP : P ∈ CT.tabs) (hi : PZI X CT U tg iter fi) (ok : BlkOk X.N X.env.scope scope own)
    (hcell : ∀ y ∈ scope.names, y.2 ≠ .cell) (hco : scope.isCoroutine = false) (h0 : scope.names.lookup (".0" : Str) = some NameKind.local)
    (hG : ∀ (s : Shared) (H : Hp) (C : Addr) (code : Value) (fp : List Addr) (A' : Around), Room k A' → PG (GX.gcx X s H (genEnv scope (GX.gcl X scope) C code builtinsNs X.env) fp A') tg (tgG X.K t))
    (hE : ∀ (s : Shared) (H : Hp) (C : Addr) (code : Value) (fp : List Addr) (A' : Around), Room k A' → PE (GX.gcx X s H (genEnv scope (GX.gcl X scope) C code builtinsNs X.env) fp A') elt (canE X.K CT U0 e))
    (hsl : ∀ i ∈ slots t, i ∈ own.map (·.2)) (hs : ∀ v, genFold iter X.env v = pure v := by intro _; rfl)
    (he : starEach [.GeneratorExp elt [⟨tg, iter, [], 0⟩] scope gpos] X.env = (false, eval (.GeneratorExp elt [⟨tg, iter, [], 0⟩] scope gpos) X.env) :: starEach [] X.env := by rfl) :
    PZ X CT U (.Call (.Name "all" p) [.GeneratorExp elt [⟨tg, iter, [], 0⟩] scope gpos] [] pos) (eAG false fi (own.map (·.2)) t e) := weakE (GX.pe_all hr hc hN hg hm TB hcode hi ok hcell hco h0 hG hE hs he) fun σ H Q ⟨s, S, ρ, gd, en, h⟩ =>
  ⟨s, S, ρ, gd, en, RG.step h fun ps S1 s1 H1 J x1 g1 w1 h1 => ⟨g1.tab P hP, fun H2 hT => ag_go (g1.tabbed hP hT) (en.mono x1) hsl w1 h1⟩⟩
theorem pz_anyG (hr : Room (k + 1) X.A) (hc : X.calm = true) (hN : X.N.Nodup) (hg : Gl X "any") (hm : X.mg "any" = none) (TB : GxR.TabB X.base X.mg c P) (hcode : X.env.code = .ref c) (hP : P ∈ CT.tabs) (hi : PZI X CT U tg iter fi) (ok : BlkOk X.N X.env.scope scope own)
    (hcell : ∀ y ∈ scope.names, y.2 ≠ .cell) (hco : scope.isCoroutine = false) (h0 : scope.names.lookup (".0" : Str) = some NameKind.local)
    (hG : ∀ (s : Shared) (H : Hp) (C : Addr) (code : Value) (fp : List Addr) (A' : Around), Room k A' → PG (GX.gcx X s H (genEnv scope (GX.gcl X scope) C code builtinsNs X.env) fp A') tg (tgG X.K t))
    (hE : ∀ (s : Shared) (H : Hp) (C : Addr) (code : Value) (fp : List Addr) (A' : Around), Room k A' → PE (GX.gcx X s H (genEnv scope (GX.gcl X scope) C code builtinsNs X.env) fp A') elt (canE X.K CT U0 e))
    (hsl : ∀ i ∈ slots t, i ∈ own.map (·.2)) (hs : ∀ v, genFold iter X.env v = pure v := by intro _; rfl)
    (he : starEach [.GeneratorExp elt [⟨tg, iter, [], 0⟩] scope gpos] X.env = (false, eval (.GeneratorExp elt [⟨tg, iter, [], 0⟩] scope gpos) X.env) :: starEach [] X.env := by rfl) :
    PZ X CT U (.Call (.Name "any" p) [.GeneratorExp elt [⟨tg, iter, [], 0⟩] scope gpos] [] pos) (eAG true fi (own.map (·.2)) t e) := weakE (GX.pe_any hr hc hN hg hm TB hcode hi ok hcell hco h0 hG hE hs he) fun σ H Q ⟨s, S, ρ, gd, en, h⟩ =>
  ⟨s, S, ρ, gd, en, RG.step h fun ps S1 s1 H1 J x1 g1 w1 h1 => ⟨g1.tab P hP, fun H2 hT => ag_go (g1.tabbed hP hT) (en.mono x1) hsl w1 h1⟩⟩
end
end Z
end
-- part ZH
section
set_option Elab.async false
set_option linter.all false
set_option maxRecDepth 100000
set_option autoImplicit false
namespace Z
open PySem PySem.Spec PyProof.Rows L2
/-! ### slices -/
def cutA {α : Type} (xs : List α) (lo hi : Option Int) : List α := (xs.drop (HT.sIx xs.length 0 lo)).take (HT.sIx xs.length xs.length hi - HT.sIx xs.length 0 lo)
def asI : W → Store → RE (Option Int)
  | .val (.int i), S => .ok (some i) S
  | _, _ => .bad
def pNone : FE (Option Int) := fun _ S => .ok none S
def pSome (f : FE W) : FE (Option Int) := fun ρ S => (f ρ S).bind asI
def sliceW (w : W) (lo hi : Option Int) (S : Store) : RE W := match w with
  | .val (.str z) => if z.length ≤ 1000000 then .ok (.val (.str (Txt.slice z lo hi))) S else .bad
  | .val (.tup ps) => if HT.sIx ps.length 0 lo = 0 ∧ HT.sIx ps.length ps.length hi = ps.length then .bad else .ok (.val (.tup (cutA ps lo hi))) S
  | w => match seqW S w with
    | some ws => (doFrzs (cutA ws lo hi) S).bind fun ps S2 => .ok (.val (.lst ps)) S2
    | none => .bad
def eSl (fa : FE W) (fl fh : FE (Option Int)) : FE W := fun ρ S => (fa ρ S).bind fun w S1 => (fl ρ S1).bind fun lo S2 => (fh ρ S2).bind fun hi S3 => sliceW w lo hi S3
section
variable {K : PySem.W.Frag} {CT : CTb}
def canO (K : PySem.W.Frag) (CT : CTb) (U : WX) (f : FE (Option Int)) : TO := fun σ H Q => ∃ s S ρ, Gd K CT s S H ∧ EnvOk K CT s ρ σ ∧ RG K CT (fun _ a b => a = b) s (f ρ S) Q (fun c d H' => U c d σ H')
theorem RepL.drop {F : Hp} : ∀ {ws : List P} {vs : List V} (n : Nat), RepL K CT F ws vs → RepL K CT F (ws.drop n) (vs.drop n)
  | ws, vs, 0, h => h
  | [], _, n + 1, h => by rw [show _ = _ from h]; exact rfl
  | w :: ws, _, n + 1, ⟨v, vs', e, _, h3⟩ => by subst e; exact RepL.drop n h3
theorem RepL.take {F : Hp} : ∀ {ws : List P} {vs : List V} (n : Nat), RepL K CT F ws vs → RepL K CT F (ws.take n) (vs.take n)
  | ws, vs, 0, h => by rw [List.take_zero, List.take_zero]; exact rfl
  | [], _, n + 1, h => by rw [show _ = _ from h]; exact rfl
  | w :: ws, _, n + 1, ⟨v, vs', e, h2, h3⟩ => by subst e; exact ⟨v, _, rfl, h2, RepL.take n h3⟩
end
section
variable {X : Cx} {CT : CTb} {U : WX} {a : Expr} {lo hi : Option Expr} {fa : FE W} {fl fh : FE (Option Int)} {pos p2 : Pos}
theorem weakO {X : Cx} {e : Option Expr} {t t' : TO} (h : PO X e t) (w : ∀ σ H Q, t' σ H Q → t σ H Q) : PO X e t' := ⟨fun pins s σ H Q I q => h.run pins s σ H Q I (w σ H Q q)⟩
theorem zo_none : PO X none (canO X.K CT U pNone) := weakO po_none fun σ H Q ⟨s, S, ρ, gd, en, h⟩ => RG.here h gd rfl
theorem zo_some {e : Expr} {f : FE W} (h : PZ X CT U e f) : PO X (some e) (canO X.K CT U (pSome f)) := weakO (po_some h) fun σ H Q ⟨s, S, ρ, gd, en, h⟩ =>
  ⟨s, S, ρ, gd, en, RG.step h fun w S1 s1 H1 v x1 g1 r1 h1 => by
    cases w with
    | loc n => exact h1.elim
    | exc => exact h1.elim
    | val p =>
      cases p with
      | int i => exact ⟨i, r1, RG.here h1 g1 rfl⟩
      | _ => exact h1.elim⟩
def rSlZ (K : PySem.W.Frag) : V → Option Int → Option Int → Hp → VK → Prop := fun x lo hi H Q => rSlL K x lo hi H Q ∨ (rSlT K x lo hi H Q ∨ C8.rSlX x lo hi H Q)
theorem sliceW_seq {K : PySem.W.Frag} {s : Fs} {S : Store} {H : Hp} {w : W} {v : V} {lo hi : Option Int} {Q : VK} {EX : Value → Option Addr → Hp → Prop} (g : Gd K CT s S H) (r : RepW K CT s w v)
    (h : RG K CT (RepW K CT) s (match seqW S w with
    | some ws => (doFrzs (cutA ws lo hi) S).bind fun ps S2 => RE.ok (.val (.lst ps)) S2
    | none => .bad) Q EX) : rSlL K v lo hi H Q := by
  split at h
  · rename_i ws e
    obtain ⟨a, vs, rfl, h1, h2⟩ := seqW_ok g r e
    refine ⟨a, vs, rfl, h1, fun p hp => ?_⟩
    have hl := h2.length
    have h3 : RepWs K CT s (cutA ws lo hi) (cutV vs lo hi) := by
      unfold cutA cutV
      rw [hl]
      exact (h2.drop _).take _
    obtain ⟨ps, S2, s2, x2, g2, r2, h2⟩ := RG.frzs g h3 h
    exact RG.new h2 g2 hp fun F' e q => ⟨p, _, rfl, q, r2.mono e⟩
  · exact h.elim
theorem pz_slice (ha : PZ X CT U a fa) (hl : PO X lo (canO X.K CT U fl)) (hh : PO X hi (canO X.K CT U fh)) : PZ X CT U (.Subscript a (.Slice lo hi none p2) pos) (eSl fa fl fh) :=
  weakE (pe_slice (r := rSlZ X.K) (sl_list.or (sl_tup.or C8.sl_txt)) ha hl hh) fun σ H Q ⟨s, S, ρ, gd, en, h⟩ =>
  ⟨s, S, ρ, gd, en, RG.step h fun w S1 s1 H1 v x1 g1 r1 h1 => ⟨s1, S1, ρ, g1, en.mono x1, RG.step h1 fun l S2 s2 H2 l' x2 g2 e2 h2 => by
    have e2 : l = l' := e2
    subst e2
    exact ⟨s2, S2, ρ, g2, (en.mono x1).mono x2, RG.step h2 fun u S3 s3 H3 u' x3 g3 e3 h3 => by
      have e3 : u = u' := e3
      subst e3
      have r9 := (r1.mono x2).mono x3
      unfold sliceW at h3
      split at h3
      · rename_i z
        split at h3
        · rename_i c
          exact .inr (.inr ⟨z, r9, sz6 c, RG.here h3 g3 rfl⟩)
        · exact h3.elim
      · rename_i ps
        split at h3
        · exact h3.elim
        · rename_i c
          obtain ⟨b, vs, rfl, q1, q2⟩ := r9
          have hl := q2.length
          refine .inr (.inl ⟨b, vs, rfl, g3.exF.st q1, by rw [hl]; exact c, fun p hp => ?_⟩)
          refine RG.new h3 g3 hp fun F' e q => ⟨p, _, rfl, .inl (.inl q), ?_⟩
          have : RepL X.K CT s3.F (cutA ps l u) (cutV vs l u) := by
            unfold cutA cutV
            rw [hl]
            exact (q2.drop _).take _
          exact this.mono e
      · exact .inl (sliceW_seq g3 r9 h3)⟩⟩⟩
/-! ### xs[::-1] -/
def revW : W → Store → RE W := fun w S => match seqW S w with
  | some ws => (doFrzs ws S).bind fun ps S2 => .ok (.val (.lst ps.reverse)) S2
  | none => .bad
theorem RepL.rev {K : PySem.W.Frag} {F : Hp} : ∀ {ps : List P} {vs : List V}, RepL K CT F ps vs → RepL K CT F ps.reverse vs.reverse
  | [], _, h => by rw [show _ = _ from h]; exact rfl
  | p :: ps, _, ⟨v, vs', e, h2, h3⟩ => by
    subst e
    rw [List.reverse_cons, List.reverse_cons]
    exact (RepL.rev h3).append ⟨v, [], rfl, h2, rfl⟩
theorem pz_rev {k : Nat} {q1 q2 q3 : Pos} (ha : PZ X CT U a fa) : PZ X CT U (.Subscript a (.Slice none none (some (.UnaryOp .USub (.Constant (.int 1) k q1) q2)) q3) pos) (eUn revW fa) := weakE (pe_revL ha) fun σ H Q ⟨s, S, ρ, gd, en, h⟩ =>
  ⟨s, S, ρ, gd, en, RG.step h fun w S1 s1 H1 v x1 g1 r1 h1 => by
    unfold revW at h1
    split at h1
    · rename_i ws e
      obtain ⟨b, vs, rfl, q1, q2⟩ := seqW_ok g1 r1 e
      refine ⟨b, vs, rfl, q1, fun p hp => ?_⟩
      obtain ⟨ps, S2, s2, x2, g2, r2, h2⟩ := RG.frzs g1 q2 h1
      exact RG.new h2 g2 hp fun F' e q => ⟨p, _, rfl, q, r2.rev.mono e⟩
    · exact h1.elim⟩
/-! ### min(xs), max(xs) of a list of numbers -/
def minI (xs : List Int) : Option Int := match xs with
  | [] => none
  | x :: xs => some (xs.foldl (fun a b => if b < a then b else a) x)
def maxI (xs : List Int) : Option Int := match xs with
  | [] => none
  | x :: xs => some (xs.foldl (fun a b => if b > a then b else a) x)
theorem foldl_min (x : Int) : ∀ (xs : List Int), (xs.foldl (fun a b => if b < a then b else a) x ∈ x :: xs) ∧ ∀ y ∈ x :: xs, xs.foldl (fun a b => if b < a then b else a) x ≤ y := by
  intro xs
  induction xs generalizing x with
  | nil => simp
  | cons b xs ih =>
    rw [List.foldl_cons]
    by_cases hb : b < x
    · rw [if_pos hb]
      obtain ⟨h1, h2⟩ := ih b
      have h0 := h2 b List.mem_cons_self
      refine ⟨List.mem_cons_of_mem _ h1, fun y hy => ?_⟩
      rcases List.mem_cons.mp hy with e | e
      · subst e; omega
      · exact h2 y e
    · rw [if_neg hb]
      obtain ⟨h1, h2⟩ := ih x
      have h0 := h2 x List.mem_cons_self
      refine ⟨?_, fun y hy => ?_⟩
      · rcases List.mem_cons.mp h1 with e | e
        · rw [e]; exact List.mem_cons_self
        · exact List.mem_cons_of_mem _ (List.mem_cons_of_mem _ e)
      · rcases List.mem_cons.mp hy with e | e
        · subst e; omega
        · rcases List.mem_cons.mp e with e | e
          · subst e; omega
          · exact h2 y (List.mem_cons_of_mem _ e)
theorem foldl_max (x : Int) : ∀ (xs : List Int), (xs.foldl (fun a b => if b > a then b else a) x ∈ x :: xs) ∧ ∀ y ∈ x :: xs, y ≤ xs.foldl (fun a b => if b > a then b else a) x := by
  intro xs
  induction xs generalizing x with
  | nil => simp
  | cons b xs ih =>
    rw [List.foldl_cons]
    by_cases hb : b > x
    · rw [if_pos hb]
      obtain ⟨h1, h2⟩ := ih b
      have h0 := h2 b List.mem_cons_self
      refine ⟨List.mem_cons_of_mem _ h1, fun y hy => ?_⟩
      rcases List.mem_cons.mp hy with e | e
      · subst e; omega
      · exact h2 y e
    · rw [if_neg hb]
      obtain ⟨h1, h2⟩ := ih x
      have h0 := h2 x List.mem_cons_self
      refine ⟨?_, fun y hy => ?_⟩
      · rcases List.mem_cons.mp h1 with e | e
        · rw [e]; exact List.mem_cons_self
        · exact List.mem_cons_of_mem _ (List.mem_cons_of_mem _ e)
      · rcases List.mem_cons.mp hy with e | e
        · subst e; omega
        · rcases List.mem_cons.mp e with e | e
          · subst e; omega
          · exact h2 y (List.mem_cons_of_mem _ e)
def minW : List W → Store → RE W
  | [w], S => match pOf S w with
    | some (.lst ps) => orBad (((intsOf ps).bind minI).map fun m => .val (.int m)) S
    | _ => .bad
  | _, _ => .bad
def maxW : List W → Store → RE W
  | [w], S => match pOf S w with
    | some (.lst ps) => orBad (((intsOf ps).bind maxI).map fun m => .val (.int m)) S
    | _ => .bad
  | _, _ => .bad
theorem minI_ok {ns : List Int} {m m' : Int} (h : minI ns = some m) (h1 : m' ∈ ns) (h2 : ∀ y, y ∈ ns → m' ≤ y) : m' = m := by
  cases ns with
  | nil => cases h
  | cons x xs =>
    have h : some (xs.foldl (fun a b => if b < a then b else a) x) = some m := h
    cases h
    obtain ⟨a1, a2⟩ := foldl_min x xs
    have := h2 _ a1
    have := a2 _ h1
    omega
theorem maxI_ok {ns : List Int} {m m' : Int} (h : maxI ns = some m) (h1 : m' ∈ ns) (h2 : ∀ y, y ∈ ns → y ≤ m') : m' = m := by
  cases ns with
  | nil => cases h
  | cons x xs =>
    have h : some (xs.foldl (fun a b => if b > a then b else a) x) = some m := h
    cases h
    obtain ⟨a1, a2⟩ := foldl_max x xs
    have := h2 _ a1
    have := a2 _ h1
    omega
theorem cz_min {K : PySem.W.Frag} : CallZ K CT (rMin K) minW := fun s S H ws vs Q EX gd r h => by
  unfold minW at h
  split at h
  · rename_i w
    obtain ⟨v, rfl, rw⟩ := rep1 r
    split at h
    · rename_i ps e
      obtain ⟨a, vs, rfl, h1, h2⟩ := (pOf_ok gd rw e).lst gd
      obtain ⟨z, e2, h⟩ := RG.orBad h
      simp only [Option.map_eq_some_iff, Option.bind_eq_some_iff] at e2
      obtain ⟨m, ⟨ns, e3, e4⟩, rfl⟩ := e2
      refine ⟨a, ns, rfl, by rw [← intsOf_ok e3 h2]; exact SqL.of h1, ?_, fun m' p1 p2 => ?_⟩
      · cases ns with
        | nil => cases e4
        | cons _ _ => simp
      · rw [minI_ok e4 p1 p2]; exact RG.here h gd rfl
    · exact h.elim
  · exact h.elim
theorem cz_max {K : PySem.W.Frag} : CallZ K CT (rMax K) maxW := fun s S H ws vs Q EX gd r h => by
  unfold maxW at h
  split at h
  · rename_i w
    obtain ⟨v, rfl, rw⟩ := rep1 r
    split at h
    · rename_i ps e
      obtain ⟨a, vs, rfl, h1, h2⟩ := (pOf_ok gd rw e).lst gd
      obtain ⟨z, e2, h⟩ := RG.orBad h
      simp only [Option.map_eq_some_iff, Option.bind_eq_some_iff] at e2
      obtain ⟨m, ⟨ns, e3, e4⟩, rfl⟩ := e2
      refine ⟨a, ns, rfl, by rw [← intsOf_ok e3 h2]; exact SqL.of h1, ?_, fun m' p1 p2 => ?_⟩
      · cases ns with
        | nil => cases e4
        | cons _ _ => simp
      · rw [maxI_ok e4 p1 p2]; exact RG.here h gd rfl
    · exact h.elim
  · exact h.elim
variable {ga : FE (List W)} {p : Pos}
theorem pz_minL (hc : X.calm = true) (hg : Gl X "min") (hm : X.mg "min" = none) (ha : PZA X CT U [a] ga) (he : starEach [a] X.env = (false, eval a X.env) :: starEach [] X.env := by rfl) : PZ X CT U (.Call (.Name "min" p) [a] [] pos) (eCB minW ga) :=
  pz_callB (cr_min hc) cz_min hg hm (by decide +kernel) ha (by decide) (by decide) he rfl
theorem pz_maxL (hc : X.calm = true) (hg : Gl X "max") (hm : X.mg "max" = none) (ha : PZA X CT U [a] ga) (he : starEach [a] X.env = (false, eval a X.env) :: starEach [] X.env := by rfl) : PZ X CT U (.Call (.Name "max" p) [a] [] pos) (eCB maxW ga) :=
  pz_callB (cr_max hc) cz_max hg hm (by decide +kernel) ha (by decide) (by decide) he rfl
/-! ### range(i, j, -1) -/
def rngD (i : Int) (n : Nat) : List P := (List.range n).map fun (k : Nat) => P.int (i + (k : Nat) * (-1))
def iRangeD (fa : FE (List W)) : FI := fun ρ S => (fa ρ S).bind fun ws S1 => match ws with
  | [.val (.int i), .val (.int j), .val (.int (-1))] => if rngOk i j = true then .ok (rngD i (i - j).toNat) S1 else .bad
  | _ => .bad
theorem walkD {K : PySem.W.Frag} {F : Hp} {i : Int} {n : Nat} : WalkP K CT F (rngD i n) (Itc i (-1) n) := by
  refine ⟨_, _, by unfold rngD; rw [List.length_map, List.length_range]; exact walk_rangeC, fun _ _ => trivial, fun k H x H' hi e y => ?_⟩
  obtain ⟨rfl, rfl⟩ := y
  unfold rngD at hi ⊢
  rw [List.length_map, List.length_range] at hi
  exact ⟨.int (i + (k : Nat) * (-1)), by rw [List.getElem?_map, List.getElem?_range hi]; rfl, .inl ⟨rfl, rfl⟩⟩
theorem rep3 {K : PySem.W.Frag} {s : Fs} {w u z : W} {vs : List V} (r : RepWs K CT s [w, u, z] vs) : ∃ v v' v'', vs = [v, v', v''] ∧ RepW K CT s w v ∧ RepW K CT s u v' ∧ RepW K CT s z v'' := by
  obtain ⟨v, vs', rfl, h2, h3⟩ := r
  obtain ⟨v', v'', rfl, h4, h5⟩ := rep2 h3
  exact ⟨v, v', v'', rfl, h2, h4, h5⟩
theorem zi_rangeD {tg b c : Expr} (hg : Gl X "range") (hm : X.mg "range" = none) (ha : PZA X CT U [a, b, c] ga) (hs : starEach [a, b, c] X.env = (false, eval a X.env) :: starEach [b, c] X.env := by rfl) (hs2 : (backTo pos (starEach [b, c] X.env)).any (·.1) = false := by rfl) :
    PZI X CT U tg (.Call (.Name "range" p) [a, b, c] [] pos) (iRangeD ga) := weakI (pi_range3 hg hm ha hs hs2) fun σ H Rr ⟨s, S, ρ, gd, en, h⟩ =>
  ⟨s, S, ρ, gd, en, RG.step h fun ws S1 s1 H1 vs x1 g1 r1 h1 => by
    split at h1
    · rename_i i j
      obtain ⟨v, v', v'', rfl, rv, rv', rv''⟩ := rep3 r1
      split at h1
      · rename_i c
        simp only [rngOk, Bool.and_eq_true, decide_eq_true_eq] at c
        exact ⟨i, j, -1, _, by rw [show v = _ from rv, show v' = _ from rv', show v'' = _ from rv''], RgC.neg c.1.1.1 c.1.1.2 c.1.2 c.2, RG.here h1 g1 walkD⟩
      · exact h1.elim
    · exact h1.elim⟩
/-! ### x.bit_length() -/
def bitsW : W → Store → RE W
  | .val (.int i), S => .ok (.val (.int (Builtin.Int.intBits i : Nat))) S
  | _, _ => .bad
theorem pz_bits {apos : Pos} (ha : PZ X CT U a fa) (hbase : attributeBase a "bit_length" X.env (eval a X.env) = eval a X.env := by rfl) (hline : (apos.endLine == pos.line) = true := by rfl) : PZ X CT U (.Call (.Attribute a "bit_length" apos) [] [] pos) (eUn bitsW fa) := weakE (pe_bits ha hbase hline) fun σ H Q ⟨s, S, ρ, gd, en, h⟩ =>
  ⟨s, S, ρ, gd, en, RG.step h fun w S1 s1 H1 v x1 g1 r1 h1 => by
    cases w with
    | loc n => exact h1.elim
    | exc => exact h1.elim
    | val p =>
      cases p with
      | int i => exact ⟨i, r1, RG.here h1 g1 rfl⟩
      | _ => exact h1.elim⟩
end
/-! ### a < b < c < d -/
section
variable {X : Cx} {CT : CTb} {U : WX} {a b c d : Expr} {ta tb tc td : TE} {fa fb fc fd : FE W} {r r' r'' : R2} {g g' g'' : O2} {pos : Pos}
def tChain3 (r r' r'' : R2) (ta tb tc td : TE) : TE := fun σ H Q => ta σ H fun x H1 => tb σ H1 fun y H2 => r x y H2 fun z H3 => ∃ k, z = .bl k ∧
  (if k = true then tc σ H3 fun w' H4 => r' y w' H4 fun z2 H5 => ∃ k2, z2 = .bl k2 ∧ (if k2 = true then td σ H5 fun v' H6 => r'' w' v' H6 Q else Q (.bl false) H5) else Q (.bl false) H3)
theorem pe_chain3 {op op' op'' : CmpOp} (ho : OpR X (compareOp op) r) (ho' : OpR X (compareOp op') r') (ho'' : OpR X (compareOp op'') r'') (ha : PE X a ta) (hb : PE X b tb) (hc : PE X c tc) (hd : PE X d td)
    (hm : lastMarks [op, op', op''] [b, c, d] = false := by with_unfolding_all rfl) : PE X (.Compare a [op, op', op''] [b, c, d] pos) (tChain3 r r' r'' ta tb tc td) := by
  refine ⟨fun pins s σ H Q I h => ?_⟩
  refine Compare_chain (thn (ha.run pins s σ H _ I h) fun v s1 ⟨x, H1, I1, r1, q1⟩ => chain_link (thn (hb.run pins s1 σ H1 _ I1 q1) fun u s2 ⟨y, H2, I2, r2, q2⟩ =>
    thn (ho pins s2 σ H2 x y v u _ I2 r1 r2 q2) fun d s3 ⟨z, H3, I3, r3, k, e, q3⟩ => ?_)) hm
  subst e
  cases r3
  refine wpAny_truthy_bool ?_
  cases k with
  | false => exact ite_ff ⟨.bl false, H3, I3, rfl, q3⟩
  | true =>
    refine ite_tt (chain_link (thn (hc.run pins s3 σ H3 _ I3 q3) fun w' s4 ⟨z', H4, I4, r4, q4⟩ => thn (ho' pins s4 σ H4 y z' u w' _ I4 r2 r4 q4) fun d2 s5 ⟨z2, H5, I5, r5, k2, e2, q5⟩ => ?_))
    subst e2
    cases r5
    refine wpAny_truthy_bool ?_
    cases k2 with
    | false => exact ite_ff ⟨.bl false, H5, I5, rfl, q5⟩
    | true => exact ite_tt (chain_last (thn (hd.run pins s5 σ H5 _ I5 q5) fun v' s6 ⟨z6, H6, I6, r6, q6⟩ => ho'' pins s6 σ H6 z' z6 w' v' Q I6 r4 r6 q6))
def eChain3 (g g' g'' : O2) (fa fb fc fd : FE W) : FE W := fun ρ S => (fa ρ S).bind fun a S1 => (fb ρ S1).bind fun b S2 => (g a b S2).bind fun k S3 => (asB k S3).bind fun k S4 =>
  if k = true then (fc ρ S4).bind fun c S5 => (g' b c S5).bind fun k S6 => (asB k S6).bind fun k S7 => if k = true then (fd ρ S7).bind fun d S8 => g'' c d S8 else .ok (.val (.bl false)) S7 else .ok (.val (.bl false)) S4
theorem pz_chain3 {op op' op'' : CmpOp} (ho : OpR X (compareOp op) r) (hz : OpZ X.K CT r g) (ho' : OpR X (compareOp op') r') (hz' : OpZ X.K CT r' g') (ho'' : OpR X (compareOp op'') r'') (hz'' : OpZ X.K CT r'' g'') (ha : PZ X CT U a fa) (hb : PZ X CT U b fb) (hc : PZ X CT U c fc) (hd : PZ X CT U d fd)
    (hm : lastMarks [op, op', op''] [b, c, d] = false := by with_unfolding_all rfl) : PZ X CT U (.Compare a [op, op', op''] [b, c, d] pos) (eChain3 g g' g'' fa fb fc fd) :=
  weakE (pe_chain3 ho ho' ho'' ha hb hc hd hm) fun σ H Q h => by
    obtain ⟨s, S, ρ, gd, en, h⟩ := h
    refine ⟨s, S, ρ, gd, en, RG.step h fun w S1 s1 H1 v x1 g1 r1 h1 => ?_⟩
    refine ⟨s1, S1, ρ, g1, en.mono x1, RG.step h1 fun ws S2 s2 H2 vs x2 g2 r2 h2 => ?_⟩
    refine hz s2 S2 H2 w ws v vs _ _ g2 (r1.mono x2) r2 (RG.step h2 fun kw S3 s3 H3 kv x3 g3 r3 h3 => ?_)
    obtain ⟨k, e, q⟩ := asB_ok (Q := fun k H => if k = true then canE X.K CT U fc σ H fun w' H4 => r' vs w' H4 fun z2 H5 => ∃ k2, z2 = .bl k2 ∧ (if k2 = true then canE X.K CT U fd σ H5 fun v' H6 => r'' w' v' H6 Q else Q (.bl false) H5) else Q (.bl false) H) g3 r3 (RG.step h3 fun k S4 s4 H4 k' x4 g4 r4 h4 => by
      subst r4
      cases k with
      | false => exact RG.here h4 g4 rfl
      | true =>
        refine ⟨s4, S4, ρ, g4, (((en.mono x1).mono x2).mono x3).mono x4, RG.step h4 fun c S5 s5 H5 cv x5 g5 r5 h5 => ?_⟩
        refine hz' s5 S5 H5 ws c vs cv _ _ g5 (((r2.mono x3).mono x4).mono x5) r5 (RG.step h5 fun kw2 S6 s6 H6 kv2 x6 g6 r6 h6 => ?_)
        obtain ⟨k2, e2, q2⟩ := asB_ok (Q := fun k2 H => if k2 = true then canE X.K CT U fd σ H fun v' H6 => r'' cv v' H6 Q else Q (.bl false) H) g6 r6 (RG.step h6 fun k S7 s7 H7 k' x7 g7 r7 h7 => by
          subst r7
          cases k with
          | false => exact RG.here h7 g7 rfl
          | true =>
            refine ⟨s7, S7, ρ, g7, ((((((en.mono x1).mono x2).mono x3).mono x4).mono x5).mono x6).mono x7, RG.step h7 fun dd S8 s8 H8 dv x8 g8 r8 h8 => ?_⟩
            exact hz'' s8 S8 H8 c dd cv dv Q _ g8 (((r5.mono x6).mono x7).mono x8) r8 h8)
        exact ⟨k2, e2, q2⟩)
    exact ⟨k, e, q⟩
end
end Z
end
-- part Z11
section
set_option Elab.async false
set_option linter.all false
set_option maxRecDepth 100000
set_option autoImplicit false
namespace Z
open PySem PySem.Spec PyProof.Rows L2
/-! ### defs whose code object is known -/
theorem funD_okC {P : Program} {w : World} {K : PySem.W.Frag} {mg : Str → Option Value} {base : Heap} {x qual : Str} {params : Arguments} {body : List Stmt} {scope : Scope} {dvs : List V} {kws : List (Str × V)} {fd : FuncData} {CX : CXT} {N ps : List Str} {k : Nat} {sp : Sp} {p : He.Defn}
    (F : FunD K x qual params body scope dvs kws (He.fAd K p) fd) (S : FnScope N ps scope) (len : ∀ vs H Q E, sp vs H Q E → vs.length = ps.length)
    (hbody : ∀ (cdv : Value) (A : Around) (outer : List PySem.Env) (s : Shared) (H : Hp) (vs : List V) (Q : VK) (E : XK), cdv = .ref (He.codeOf K p) → Room k (A.deeper (envOfC qual scope s.heap.objs.size (He.fAd K p) cdv)) → sp vs H Q E →
      ∃ t, PSs (cxOf CX P w K mg base N qual scope (He.fAd K p) cdv A outer s H E) body t ∧ t { nx := fun _ H' => Q .non H', rt := Q } (start N vs) H) : FnOk P w K mg base CX (k + 1) (He.fAd K p) fd ps sp := by
  obtain ⟨oc, od, dV, kV, doc, pm, an, cdv, ct, osl, rfl, lk, hcd, _, _⟩ := F.ex
  obtain ⟨c, hc⟩ := He.codeIn_ref hcd
  have e := He.codeOf_eq lk hc
  exact fn_of lk hcd S len fun A outer s H vs Q E hr hsp => hbody cdv A outer s H vs Q E (by rw [hc, e]) hr hsp
def DefOkC (P' : Program) (w : World) (K : PySem.W.Frag) (mg : Str → Option Value) (base : Heap) (CT : CTb) (N : List Str) (qual : Str) (st : Stmt) (p : He.Defn) (k : Nat) (body : FS) : Prop :=
  ∀ (cdv : Value) (A : Around) (s : Shared) (H : Hp) (E : XK) (o : List PySem.Env), cdv = .ref (He.codeOf K p) → Room k (cxOf (L2.CX P' w) P' w K mg base N qual (defScope st) (He.fAd K p) cdv A o s H E).A →
    Takes (cxOf (L2.CX P' w) P' w K mg base N qual (defScope st) (He.fAd K p) cdv A o s H E) (fun c d _ H => E c d H) →
    PassesOwn (model P' w) (cxOf (L2.CX P' w) P' w K mg base N qual (defScope st) (He.fAd K p) cdv A o s H E).A (cxOf (L2.CX P' w) P' w K mg base N qual (defScope st) (He.fAd K p) cdv A o s H E).env (cxOf (L2.CX P' w) P' w K mg base N qual (defScope st) (He.fAd K p) cdv A o s H E).xe →
      PZSs (cxOf (L2.CX P' w) P' w K mg base N qual (defScope st) (He.fAd K p) cdv A o s H E) CT (fun c d _ H => E c d H) (defBody st) body
section
variable {K : PySem.W.Frag} {CT : CTb}
theorem fn_pureC {P' : Program} {w : World} {mg : Str → Option Value} {base : Heap} {x qual : Str} {st : Stmt} {p : He.Defn} {fd : FuncData} {N ps : List Str} {k : Nat} {body : FS} {dvs : List V} {kws : List (Str × V)} (F : FunD K x qual (defArgs st) (defBody st) (defScope st) dvs kws (He.fAd K p) fd) (S : FnScope N ps (defScope st))
    (hb : DefOkC P' w K mg base CT N qual st p k body) : FnOk P' w K mg base (L2.CX P' w) (k + 1) (He.fAd K p) fd ps (spP K CT ps.length (runP N.length body)) := by
  refine funD_okC F S (fun vs H Q E ⟨F, ds, _, _, hl, r, _⟩ => by rw [r.length, hl]) fun cdv A outer s H vs Q E hcd hr hsp => ⟨_, hb cdv A s H E outer hcd hr (takes_of rfl rfl rfl rfl) (passes_of rfl), ?_⟩
  obtain ⟨F0, ds, eF, tb, hl, r, h⟩ := hsp
  refine ⟨⟨noT CT H, F0, []⟩, [], envOf ds N.length, Gd.start eF tb, envOf_ok r, ?_⟩
  unfold runP at h
  cases er : body (envOf ds N.length) [] with
  | nx ρ' S' => rw [er] at h; exact fun s' H' σ' x g en => h s'.F H' _ (left_of x g) rfl
  | rt w S' =>
    rw [er] at h
    intro s' H' v x g rw
    simp only at h
    cases ef : frz S' w with
    | none => rw [ef] at h; exact h.elim
    | some q =>
      obtain ⟨p, S2⟩ := q
      rw [ef] at h
      obtain ⟨s2, x2, g2, r2⟩ := frz_ok g rw ef
      exact h s2.F H' v (left_of (x.trans x2) g2) r2
  | ex x ρ' S' => rw [er] at h; exact fun s' H' σ' c dd x g en q => h s'.F H' c dd (left_of x g) q
  | bk ρ' S' => rw [er] at h; exact h.elim
  | ct ρ' S' => rw [er] at h; exact h.elim
  | bad => rw [er] at h; exact h.elim
end
section
variable {K : PySem.W.Frag} {CT : CTb} {c x : Str} {k n : Nat} {fd : FuncData} {g : List P → Rp}
theorem fn_initC {K : PySem.W.Frag} {P' : Program} {w : World} {mg : Str → Option Value} {base : Heap} {qual : Str} {p : He.Defn} {st : Stmt} {N ps : List Str} {body : FS} {dvs : List V} {kws : List (Str × V)} (F : FunD K x qual (defArgs st) (defBody st) (defScope st) dvs kws (He.fAd K p) fd) (S : FnScope N ps (defScope st)) (hN : N.length = N.length - 1 + 1) (hps : ps.length = n + 1)
    (hb : DefOkC P' w K mg base CT N qual st p k body) : FnOk P' w K mg base (L2.CX P' w) (k + 1) (He.fAd K p) fd ps (spI K CT c n (runI c N.length body)) := by
  refine funD_okC F S (fun vs H Q E ⟨F, ds, a, dx, vs', e, _, _, _, _, hl, r, _⟩ => by rw [e, List.length_cons, r.length, hl, hps]) fun cdv A outer s H vs Q E hcd hr hsp => ⟨_, hb cdv A s H E outer hcd hr (takes_of rfl rfl rfl rfl) (passes_of rfl), ?_⟩
  obtain ⟨F0, ds, a, dx, vs', rfl, eF, tb, Fa, Ha, hl, r, h⟩ := hsp
  generalize hHm : (fun b => if b = a then none else H b : Hp) = Hm at h
  have aT : a ∉ CT.tabs := fun z => by
    obtain ⟨⟨ps, hp, _⟩, _⟩ := tb a z
    rw [Ha] at hp; cases hp
  have eGa : noT CT Hm a = none := by rw [noT_at aT, ← hHm]; simp
  have eG : Ex (noT CT Hm) H := fun b o e => by
    have e := noT_ex Hm b o e
    rw [← hHm] at e
    by_cases q : b = a
    · simp [q] at e
    · simpa [q] using e
  have g0 : Gd K CT ⟨noT CT Hm, F0, [a]⟩ [.ins c [] []] H := by
    refine ⟨eF, eG, rfl, fun i cl b h1 h2 => ?_, fun i j c1 c2 b h1 h2 l1 l2 e1 e2 => ?_, fun P hP => (tb P hP).1, fun P hP => (tb P hP).2, fun P hP => noT_tab hP⟩
    · cases i with
      | zero => cases h1; cases h2; exact ⟨Fa, eGa, dx, [], Ha, rfl, rfl⟩
      | succ i => simp at h1
    · cases i with
      | zero =>
        cases j with
        | zero => rfl
        | succ j => simp at h2
      | succ i => simp at h1
  have en0 : EnvOk K CT ⟨noT CT Hm, F0, [a]⟩ (some (.loc 0) :: envOf ds (N.length - 1)) (start N (.ref a :: vs')) := by
    have lz := r.length
    refine ⟨by simp [envOf, L2.start]; omega, fun i w e => ?_⟩
    cases i with
    | zero =>
      cases e
      exact ⟨.ref a, rfl, a, rfl, rfl⟩
    | succ i =>
      have e' : (envOf ds (N.length - 1))[i]? = some (some w) := by simpa using e
      have q := (envOf_ok (N := N.drop 1) (G := noT CT Hm) (m := [a]) r).get i w (by simpa using e')
      obtain ⟨v, hv, rv⟩ := q
      refine ⟨v, ?_, rv⟩
      have : start N (.ref a :: vs') = some (.ref a) :: start (N.drop 1) vs' := by
        unfold L2.start
        rw [List.map_cons, List.cons_append, List.length_cons, List.length_drop]
        congr 3
        omega
      rw [this]
      simpa using hv
  have lf : ∀ {s' : Fs} {S' : Store} {H' : Hp}, Ext ⟨noT CT Hm, F0, [a]⟩ s' → Gd K CT s' S' H' → Left CT F0 Hm s'.F H' := fun x g => ⟨x.f, by have := g.exG; rw [← x.g] at this; exact this, g.exF, x.new, g.tb⟩
  refine ⟨_, _, _, g0, en0, ?_⟩
  unfold runI at h
  have fin : ∀ {S' : Store} {s' : Fs} {H' : Hp}, Ext ⟨noT CT Hm, F0, [a]⟩ s' → Gd K CT s' S' H' → RP K CT F0 Hm (match frz S' (.loc 0) with | some (p, _) => .ok p | none => .bad) (fun v H' => v = .ref a → Q .non H') E → Q .non H' := fun {S' s' H'} x g h => by
    cases ef : frz S' (.loc 0) with
    | none => rw [ef] at h; exact h.elim
    | some q =>
      obtain ⟨p, S2⟩ := q
      rw [ef] at h
      obtain ⟨s2, x2, g2, r2⟩ := frz_ok (w := .loc 0) (v := .ref a) g ⟨a, x.m 0 a rfl, rfl⟩ ef
      exact h s2.F H' (.ref a) (lf (x.trans x2) g2) r2 rfl
  cases er : body (some (.loc 0) :: envOf ds (N.length - 1)) [.ins c [] []] with
  | nx ρ' S' => rw [er] at h; exact fun s' H' σ' x g en => fin x g h
  | rt w S' =>
    rw [er] at h
    intro s' H' v x g rv
    cases w with
    | loc n => exact h.elim
    | exc => exact h.elim
    | val p =>
      cases p with
      | non => rw [show v = _ from rv]; exact fin x g h
      | _ => exact h.elim
  | ex x ρ' S' => rw [er] at h; exact fun s' H' σ' c dd x g en q => h s'.F H' c dd (lf x g) q
  | bk ρ' S' => rw [er] at h; exact h.elim
  | ct ρ' S' => rw [er] at h; exact h.elim
  | bad => rw [er] at h; exact h.elim
end
/-- the tables of the defs -/
structure TabsOk (K : PySem.W.Frag) (mg : Str → Option Value) (base : Heap) (tf : List He.Defn) : Prop where
  ok : ∀ p ∈ tf, LamX.TabB base mg (He.cT K p).1 (He.cT K p).2
theorem TabsOk.at {K : PySem.W.Frag} {mg : Str → Option Value} {base : Heap} {tf : List He.Defn} (h : TabsOk K mg base tf) (p : He.Defn) (hp : p ∈ tf) : GxR.TabB base mg (He.codeOf K p) (He.cT K p).2 := ⟨(h.ok p hp).code, (h.ok p hp).bm, (h.ok p hp).gP⟩
abbrev ctOf (K : PySem.W.Frag) (tf : List He.Defn) : CTb := ⟨He.ga K, tf.map fun p => (He.cT K p).2, none⟩
theorem tab_mem {K : PySem.W.Frag} {tf : List He.Defn} (p : He.Defn) (hp : p ∈ tf) : (He.cT K p).2 ∈ (ctOf K tf).tabs := List.mem_map.mpr ⟨p, hp, rfl⟩
section
variable {X : Cx} {CT : CTb} {U : WX} {a : Expr} {ga : FE (List W)} {pos p : Pos}
/-- tuple(list), tuple(tuple) -/
def tupleW : List W → Store → RE W
  | [.val (.tup ps)], S => .ok (.val (.tup ps)) S
  | [w], S => match seqW S w with
    | some ws => (doFrzs ws S).bind fun ps S2 => .ok (.val (.tup ps)) S2
    | none => .bad
  | _, _ => .bad
theorem cz_tuple {K : PySem.W.Frag} : CallZ K CT (fun xs H Q => ∃ p ys, xs = [.ref p] ∧ ((SqL K H p ys ∧ ∀ l, H l = none → Q (.ref l) (upd H l (.tup ys))) ∨ (SqT K H p ys ∧ Q (.ref p) H))) tupleW := fun s S H ws vs Q EX gd r h => by
  unfold tupleW at h
  split at h
  · rename_i ps
    obtain ⟨v, rfl, rw⟩ := rep1 r
    obtain ⟨a, vs, rfl, h1, h2⟩ := id rw
    exact ⟨a, vs, rfl, .inr ⟨gd.exF.st h1, RG.here h gd rw⟩⟩
  · rename_i w _
    obtain ⟨v, rfl, rw⟩ := rep1 r
    split at h
    · rename_i ws e
      obtain ⟨a, vs, rfl, h1, h2⟩ := seqW_ok gd rw e
      obtain ⟨ps, S2, s2, x2, g2, r2, h2⟩ := RG.frzs gd h2 h
      exact ⟨a, vs, rfl, .inl ⟨h1, fun p hp => RG.new h2 g2 hp fun F' e q => ⟨p, _, rfl, .inl (.inl q), r2.mono e⟩⟩⟩
    · exact h.elim
  · exact h.elim
theorem pz_tuple (hg : Gl X "tuple") (hm : X.mg "tuple" = none) (ha : PZA X CT U [a] ga) (he : starEach [a] X.env = (false, eval a X.env) :: starEach [] X.env := by rfl) : PZ X CT U (.Call (.Name "tuple" p) [a] [] pos) (eCB tupleW ga) :=
  pz_callTy call_tuple_of cz_tuple hg hm (by decide +kernel) ha (by decide) (by decide) he rfl
end

/-! ### tables of exceptions -/
theorem lookup_mem {α β : Type} [BEq α] [LawfulBEq α] {k : α} {v : β} : ∀ {l : List (α × β)}, l.lookup k = some v → (k, v) ∈ l
  | [], h => by cases h
  | (a, b) :: l, h => by
    rw [List.lookup_cons] at h
    cases e : k == a with
    | true =>
      rw [e] at h
      cases h
      rw [eq_of_beq e]
      exact List.mem_cons_self
    | false =>
      rw [e] at h
      exact List.mem_cons_of_mem _ (lookup_mem h)
section
variable {K : PySem.W.Frag} {h : Heap} {mg : Str → Option Value} {CT : CTb}
theorem exc_mk {x : Str} (c : PySem.W.excIn K (CT x) He.veBase "ValueError.__new__" = true ∧ PySem.W.keepIn K (.ref (CT x)) = true ∧ PySem.W.subIn K (.ref (CT x)) (.type "BaseException") = some true ∧
    PySem.W.typeIn K (.ref (CT x)) = some (.type "type")) (g : mg x = some (.ref (CT x))) : ExcF K mg CT x := ⟨c.1, g, c.2.1, c.2.2.1, c.2.2.2⟩
/-- texts and numbers of a table -/
def dvOk : He.Dv → Bool
  | .int _ => true
  | .str _ => true
  | _ => false
def dvP : He.Dv → P
  | .int i => .int i
  | .str x => .str x
  | _ => .non
theorem dv_rep {F : Hp} : ∀ {ds : List He.Dv}, ds.all dvOk = true → RepL K CT F (ds.map dvP) (ds.map (He.Dv.v K))
  | [], _ => rfl
  | d :: ds, e => by
    rw [List.all_cons, Bool.and_eq_true] at e
    cases d with
    | int i => exact ⟨_, _, rfl, rfl, dv_rep e.2⟩
    | str i => exact ⟨_, _, rfl, rfl, dv_rep e.2⟩
    | _ => exact absurd e.1 (by simp [dvOk])
theorem glo_tup {x : Str} {ds : List He.Dv} (c : He.tupB K x ds = true) (g : mg x = some (.ref (He.ga K x))) (e : ds.all dvOk = true) (ps : List P) (hp : ds.map dvP = ps := by rfl) : GloOk K CT mg x (.tup ps) := by
  subst hp
  exact ⟨_, .ref (He.ga K x), g, rfl, _, _, rfl, He.tupB_ok c _, dv_rep e⟩
end

/-! ### a law's end -/
theorem sp_law {K : PySem.W.Frag} {CT : CTb} {m : List P → Rp} {n : Nat} (h : ∀ ns : List Int, ns.length ≤ n → m [.scr ns] = .ok (.bl true)) (H : Hp) (a : Addr) (ns : List Int) (hl : ns.length ≤ n) (ht : ∀ P ∈ CT.tabs, H P = some (.tbl #[])) (S : SqL K H a (ns.map V.int)) :
    spP K CT 1 m [.ref a] H (fun v _ => v = .bl true) fun _ _ _ => False := by
  have S' : SqL K (noT CT H) a (ns.map V.int) := by
    rcases S with S | S
    · refine .inl ?_
      rcases S with S | ⟨o, S⟩
      · exact .inl (by rw [noT_at (fun z => by rw [ht a z] at S; cases S)]; exact S)
      · exact .inr ⟨o, by rw [noT_at (fun z => by rw [ht a z] at S; cases S)]; exact S⟩
    · exact .inr S
  refine ⟨noT CT H, [.scr ns], noT_ex H, fun P hP => ⟨⟨#[], ht P hP, trivial⟩, noT_tab hP⟩, rfl, ⟨_, _, rfl, ⟨a, rfl, S'⟩, rfl⟩, ?_⟩
  rw [h ns hl]
  exact fun F' H' v _ h => h
theorem cx_no {P' : Program} (w : World) (H : Hp) (s : Shared) (e : Value) (s' : Shared) : L2.CX P' w [] H s (fun _ _ _ => False) e s' → False := fun ⟨_, _, _, _, _, _, _, _, _, _, _, _, h⟩ => h
end Z
end
-- part Z12
section
set_option Elab.async false
set_option linter.all false
set_option maxRecDepth 100000
set_option autoImplicit false
namespace Z
open PySem PySem.Spec PyProof.Rows L2
/-! # the plain side: rules that compute a mirror -/
theorem charN_inj {a b : Char} (h : a.toNat = b.toNat) : a = b := Char.ext (UInt32.toNat_inj.mp h)
@[simp] theorem ofString_inj {a b : String} : (Str.ofString a = Str.ofString b) ↔ (a = b) := by
  constructor
  · intro h
    rw [Str.ofString_eq_toList, Str.ofString_eq_toList] at h
    have h1 := congrArg (fun s => s.cps.toList) h
    simp only at h1
    have h2 : a.toList = b.toList := by
      have key : ∀ (l m : List Char), l.map Char.toNat = m.map Char.toNat → l = m := by
        intro l
        induction l with
        | nil => intro m h; cases m with
          | nil => rfl
          | cons _ _ => cases h
        | cons c l ih => intro m h; cases m with
          | nil => cases h
          | cons d m =>
            simp only [List.map_cons, List.cons.injEq] at h
            rw [charN_inj h.1, ih m h.2]
      exact key _ _ (by simpa using h1)
    exact String.toList_inj.mp h2
  · intro h; rw [h]
variable {α β σ : Type}
/-! bind, toR, sequence -/
@[simp] theorem rb_ok (a : α) (S : Store) (k : α → Store → RE β) : (RE.ok a S).bind k = k a S := id rfl
@[simp] theorem rb_ex (x : Xn) (S : Store) (k : α → Store → RE β) : (RE.ex x S : RE α).bind k = .ex x S := id rfl
@[simp] theorem rb_bad (k : α → Store → RE β) : (RE.bad : RE α).bind k = .bad := id rfl
@[simp] theorem rb_ite (c : Prop) [Decidable c] (a b : RE α) (k : α → Store → RE β) : (if c then a else b).bind k = if c then a.bind k else b.bind k := by split <;> rfl
@[simp] theorem tr_ok (a : α) (S : Store) (ρ : Env) (k : α → Store → R) : (RE.ok a S).toR ρ k = k a S := id rfl
@[simp] theorem tr_ex (x : Xn) (S : Store) (ρ : Env) (k : α → Store → R) : (RE.ex x S : RE α).toR ρ k = .ex x ρ S := id rfl
@[simp] theorem tr_bad (ρ : Env) (k : α → Store → R) : (RE.bad : RE α).toR ρ k = .bad := id rfl
@[simp] theorem tr_ite (c : Prop) [Decidable c] (a b : RE α) (ρ : Env) (k : α → Store → R) : (if c then a else b).toR ρ k = if c then a.toR ρ k else b.toR ρ k := by split <;> rfl
def R.seq (r : R) (g : FS) : R := match r with
  | .nx ρ' S' => g ρ' S'
  | r => r
@[simp] theorem sSeq_ap (f g : FS) (ρ : Env) (S : Store) : sSeq f g ρ S = (f ρ S).seq g := id rfl
@[simp] theorem rs_nx (ρ : Env) (S : Store) (g : FS) : (R.nx ρ S).seq g = g ρ S := id rfl
@[simp] theorem rs_rt (w : W) (S : Store) (g : FS) : (R.rt w S).seq g = .rt w S := id rfl
@[simp] theorem rs_bk (ρ : Env) (S : Store) (g : FS) : (R.bk ρ S).seq g = .bk ρ S := id rfl
@[simp] theorem rs_ct (ρ : Env) (S : Store) (g : FS) : (R.ct ρ S).seq g = .ct ρ S := id rfl
@[simp] theorem rs_ex (x : Xn) (ρ : Env) (S : Store) (g : FS) : (R.ex x ρ S).seq g = .ex x ρ S := id rfl
@[simp] theorem rs_bad (g : FS) : R.bad.seq g = .bad := id rfl
@[simp] theorem rs_ite (c : Prop) [Decidable c] (a b : R) (g : FS) : (if c then a else b).seq g = if c then a.seq g else b.seq g := by split <;> rfl
@[simp] theorem sSkip_ap (ρ : Env) (S : Store) : sSkip ρ S = .nx ρ S := id rfl
@[simp] theorem sBrk_ap (ρ : Env) (S : Store) : sBrk ρ S = .bk ρ S := id rfl
@[simp] theorem sCnt_ap (ρ : Env) (S : Store) : sCnt ρ S = .ct ρ S := id rfl
@[simp] theorem sRetN_ap (ρ : Env) (S : Store) : sRetN ρ S = .rt (.val .non) S := id rfl
@[simp] theorem sAsg_ap (i : Nat) (f : FE W) (ρ : Env) (S : Store) : sAsg i f ρ S = (f ρ S).toR ρ fun w S' => .nx (ρ.set i (some w)) S' := id rfl
@[simp] theorem sExpr_ap (f : FE W) (ρ : Env) (S : Store) : sExpr f ρ S = (f ρ S).toR ρ fun _ S' => .nx ρ S' := id rfl
@[simp] theorem sRet_ap (f : FE W) (ρ : Env) (S : Store) : sRet f ρ S = (f ρ S).toR ρ fun w S' => .rt w S' := id rfl
@[simp] theorem sIf_ap (c : FE Bool) (f g : FS) (ρ : Env) (S : Store) : sIf c f g ρ S = (c ρ S).toR ρ fun b S' => if b = true then f ρ S' else g ρ S' := id rfl
@[simp] theorem sFor_ap (fi : FI) (t : Tg) (body : FS) (ρ : Env) (S : Store) : sFor fi t body ρ S = (fi ρ S).toR ρ fun ps S1 => forGo t body ps ρ S1 := id rfl
@[simp] theorem sRaise_ap (c : Str) (ρ : Env) (S : Store) : sRaise c ρ S = .ex ⟨c, [], []⟩ ρ S := id rfl
def ixR (ρ : Env) (i : Nat) (k : W → R) : R := match ρ[i]? with
  | some (some a) => k a
  | _ => .bad
@[simp] theorem sAug_ap (i : Nat) (op : O2) (fe : FE W) (ρ : Env) (S : Store) : sAug i op fe ρ S = ixR ρ i fun a => (fe ρ S).toR ρ fun b S1 => (op a b S1).toR ρ fun w S2 => .nx (ρ.set i (some w)) S2 := id rfl
@[simp] theorem ixR_0 (w : W) (ρ : Env) (k : W → R) : ixR (some w :: ρ) 0 k = k w := id rfl
@[simp] theorem ixR_s (o : Option W) (ρ : Env) (i : Nat) (k : W → R) : ixR (o :: ρ) (i + 1) k = ixR ρ i k := id rfl
def bindR (o : Option Env) (S : Store) : R := match o with
  | some ρ => .nx ρ S
  | none => .bad
@[simp] theorem bindR_some (ρ : Env) (S : Store) : bindR (some ρ) S = .nx ρ S := id rfl
@[simp] theorem bindR_none (S : Store) : bindR none S = .bad := id rfl
@[simp] theorem sAsgT_ap (t : Tg) (f : FE W) (ρ : Env) (S : Store) : sAsgT t f ρ S = (f ρ S).toR ρ fun w S' => (doFrz w S').toR ρ fun p S2 => bindR (bindT t p ρ) S2 := by
  unfold sAsgT bindR
  congr 1
/-! names -/
@[simp] theorem eVar_0 (w : W) (ρ : Env) (S : Store) : eVar 0 (some w :: ρ) S = .ok w S := id rfl
@[simp] theorem eVar_s (o : Option W) (ρ : Env) (i : Nat) (S : Store) : eVar (i + 1) (o :: ρ) S = eVar i ρ S := id rfl
@[simp] theorem eCst_ap (p : P) (ρ : Env) (S : Store) : eCst p ρ S = .ok (.val p) S := id rfl
@[simp] theorem cYes_ap (ρ : Env) (S : Store) : cYes ρ S = .ok true S := id rfl
@[simp] theorem bindT_nm (i : Nat) (p : P) (ρ : Env) : bindT (.nm i) p ρ = some (ρ.set i (some (.val p))) := by simp [bindT]
@[simp] theorem bindT_tp (ts : List Tg) (ps : List P) (ρ : Env) : bindT (.tp ts) (.tup ps) ρ = bindTs ts ps ρ := by simp [bindT]
@[simp] theorem bindTs_nil (ρ : Env) : bindTs [] [] ρ = some ρ := by simp [bindTs]
@[simp] theorem bindTs_cons (t : Tg) (ts : List Tg) (p : P) (ps : List P) (ρ : Env) : bindTs (t :: ts) (p :: ps) ρ = (bindT t p ρ).bind (bindTs ts ps) := by simp [bindTs]
/-! arguments, operators -/
@[simp] theorem aNil_ap (ρ : Env) (S : Store) : aNil ρ S = .ok [] S := id rfl
@[simp] theorem aCons_ap (f : FE W) (r : FE (List W)) (ρ : Env) (S : Store) : aCons f r ρ S = (f ρ S).bind fun w S1 => (r ρ S1).bind fun ws S2 => .ok (w :: ws) S2 := id rfl
@[simp] theorem eBin_ap (op : O2) (fa fb : FE W) (ρ : Env) (S : Store) : eBin op fa fb ρ S = (fa ρ S).bind fun a S1 => (fb ρ S1).bind fun b S2 => op a b S2 := id rfl
@[simp] theorem eUn_ap (op : W → Store → RE W) (fa : FE W) (ρ : Env) (S : Store) : eUn op fa ρ S = (fa ρ S).bind fun a S1 => op a S1 := id rfl
@[simp] theorem asB_bl (b : Bool) (S : Store) : asB (.val (.bl b)) S = .ok b S := id rfl
@[simp] theorem tstB_ap (f : FE W) (ρ : Env) (S : Store) : tstB f ρ S = (f ρ S).bind asB := id rfl
@[simp] theorem tNotB_ap (f : FE Bool) (ρ : Env) (S : Store) : tNotB f ρ S = (f ρ S).bind fun b S1 => .ok (!b) S1 := id rfl
@[simp] theorem tAndB_ap (f u : FE Bool) (ρ : Env) (S : Store) : tAndB f u ρ S = (f ρ S).bind fun b S1 => if b = true then u ρ S1 else .ok false S1 := id rfl
@[simp] theorem tOrB_ap (f u : FE Bool) (ρ : Env) (S : Store) : tOrB f u ρ S = (f ρ S).bind fun b S1 => if b = true then .ok true S1 else u ρ S1 := id rfl
@[simp] theorem eChain_ap (g g' : O2) (fa fb fc : FE W) (ρ : Env) (S : Store) : eChain g g' fa fb fc ρ S = (fa ρ S).bind fun a S1 => (fb ρ S1).bind fun b S2 => (g a b S2).bind fun k S3 => (asB k S3).bind fun k S4 => if k = true then (fc ρ S4).bind fun c S5 => g' b c S5 else .ok (.val (.bl false)) S4 := id rfl
@[simp] theorem eAnd_ap (fa fb : FE W) (ρ : Env) (S : Store) : eAnd fa fb ρ S = (fa ρ S).bind fun a S1 => (asB a S1).bind fun k S2 => if k = true then fb ρ S2 else .ok (.val (.bl false)) S2 := id rfl
@[simp] theorem eOr_ap (fa fb : FE W) (ρ : Env) (S : Store) : eOr fa fb ρ S = (fa ρ S).bind fun a S1 => (asB a S1).bind fun k S2 => if k = true then .ok (.val (.bl true)) S2 else fb ρ S2 := id rfl
@[simp] theorem eNot_ap (fa : FE W) (ρ : Env) (S : Store) : eNot fa ρ S = (fa ρ S).bind fun a S1 => (asB a S1).bind fun k S2 => .ok (.val (.bl (!k))) S2 := id rfl
@[simp] theorem eIf_ap (t : FE Bool) (fa fb : FE W) (ρ : Env) (S : Store) : eIf t fa fb ρ S = (t ρ S).bind fun k S1 => if k = true then fa ρ S1 else fb ρ S1 := id rfl
@[simp] theorem iOp_int (C : Int → Int → Bool) (g : Int → Int → P) (i j : Int) (S : Store) : iOp C g (.val (.int i)) (.val (.int j)) S = if C i j = true then .ok (.val (g i j)) S else .bad := id rfl
@[simp] theorem negW_int (i : Int) (S : Store) : negW (.val (.int i)) S = .ok (.val (.int (-i))) S := id rfl
@[simp] theorem addW_int (i j : Int) (S : Store) : addW (.val (.int i)) (.val (.int j)) S = .ok (.val (.int (i + j))) S := id rfl
@[simp] theorem addW_str (i j : Str) (S : Store) : addW (.val (.str i)) (.val (.str j)) S = if i.length + j.length ≤ 1000000 then .ok (.val (.str (i ++ j))) S else .bad := id rfl
@[simp] theorem addW_tup (i j : List P) (S : Store) : addW (.val (.tup i)) (.val (.tup j)) S = if i.length + j.length ≤ 100000 then .ok (.val (.tup (i ++ j))) S else .bad := id rfl
@[simp] theorem addW_lst (i j : List P) (S : Store) : addW (.val (.lst i)) (.val (.lst j)) S = if i.length + j.length ≤ 100000 then .ok (.val (.lst (i ++ j))) S else .bad := id rfl
@[simp] theorem mulW_int (i j : Int) (S : Store) : mulW (.val (.int i)) (.val (.int j)) S = if mulOk i j = true then .ok (.val (.int (i * j))) S else .bad := id rfl
@[simp] theorem mulW_lst (ps : List P) (k : Int) (S : Store) : mulW (.val (.lst ps)) (.val (.int k)) S = if k < 100000 ∧ -100000 < k ∧ ps.length * k.toNat ≤ 100000 then .ok (.val (.lst (List.replicate k.toNat ps).flatten)) S else .bad := id rfl
theorem rep_flat (p : P) : ∀ n : Nat, (List.replicate n [p]).flatten = List.replicate n p
  | 0 => rfl
  | n + 1 => by rw [List.replicate_succ, List.flatten_cons, rep_flat p n, List.replicate_succ]; rfl
theorem mulOk_l {i j : Int} (h : i.natAbs < 2 ^ 64) : mulOk i j = true := by simp [mulOk, h]
theorem mulOk_r {i j : Int} (h : j.natAbs < 2 ^ 64) : mulOk i j = true := by simp [mulOk, h]
def eqR (neg : Bool) (o : Option Bool) (S : Store) : RE W := match o with
  | some k => .ok (.val (.bl (if neg = true then !k else k))) S
  | none => .bad
@[simp] theorem eqR_some (neg k : Bool) (S : Store) : eqR neg (some k) S = .ok (.val (.bl (if neg = true then !k else k))) S := id rfl
@[simp] theorem eqW_vv (neg : Bool) (p q : P) (S : Store) : eqW neg (.val p) (.val q) S = eqR neg (eqP p q) S := id rfl
@[simp] theorem eqP_int (i j : Int) : eqP (.int i) (.int j) = some (decide (i = j)) := id rfl
@[simp] theorem eqP_str (i j : Str) : eqP (.str i) (.str j) = some (decide (i = j)) := id rfl
@[simp] theorem eqP_bl (i j : Bool) : eqP (.bl i) (.bl j) = some (decide (i = j)) := id rfl
@[simp] theorem isW_non (neg : Bool) (S : Store) : isW neg (.val .non) (.val .non) S = .ok (.val (.bl (!neg))) S := by cases neg <;> rfl
@[simp] theorem isW_int (neg : Bool) (i : Int) (S : Store) : isW neg (.val (.int i)) (.val .non) S = .ok (.val (.bl neg)) S := by cases neg <;> rfl
@[simp] theorem isW_str (neg : Bool) (i : Str) (S : Store) : isW neg (.val (.str i)) (.val .non) S = .ok (.val (.bl neg)) S := by cases neg <;> rfl
@[simp] theorem isW_bl (neg : Bool) (i : Bool) (S : Store) : isW neg (.val (.bl i)) (.val .non) S = .ok (.val (.bl neg)) S := by cases neg <;> rfl
@[simp] theorem isW_blbl (neg : Bool) (i k : Bool) (S : Store) : isW neg (.val (.bl i)) (.val (.bl k)) S = .ok (.val (.bl (if neg = true then !(i == k) else i == k))) S := by cases neg <;> rfl
@[simp] theorem isW_tup (neg : Bool) (i : List P) (S : Store) : isW neg (.val (.tup i)) (.val .non) S = .ok (.val (.bl neg)) S := by cases neg <;> rfl
@[simp] theorem isW_lst (neg : Bool) (i : List P) (S : Store) : isW neg (.val (.lst i)) (.val .non) S = .ok (.val (.bl neg)) S := by cases neg <;> rfl
@[simp] theorem isW_loc (neg : Bool) (i : Nat) (S : Store) : isW neg (.loc i) (.val .non) S = .ok (.val (.bl neg)) S := by cases neg <;> rfl
/-! freezing -/
@[simp] theorem doFrz_val (p : P) (S : Store) : doFrz (.val p) S = .ok p S := id rfl
@[simp] theorem frzs_nil (S : Store) : frzs S [] = some ([], S) := id rfl
@[simp] theorem frzs_val (p : P) (ws : List W) (S : Store) : frzs S (.val p :: ws) = (frzs S ws).map fun q => (p :: q.1, q.2) := by rw [frzs]; rfl
theorem frzs_vals (S : Store) : ∀ ps : List P, frzs S (ps.map .val) = some (ps, S)
  | [] => rfl
  | p :: ps => by rw [List.map_cons, frzs_val, frzs_vals S ps]; rfl
@[simp] theorem doFrzs_nil (S : Store) : doFrzs [] S = .ok [] S := id rfl
theorem doFrzs_cons (w : W) (ws : List W) (S : Store) : doFrzs (w :: ws) S = (doFrz w S).bind fun p S1 => (doFrzs ws S1).bind fun ps S2 => .ok (p :: ps) S2 := by
  unfold doFrzs doFrz
  rw [frzs]
  cases frz S w with
  | none => rfl
  | some r =>
    simp only [Option.bind_some, rb_ok]
    cases frzs r.2 ws with
    | none => rfl
    | some q => rfl
@[simp] theorem valAll_nil : valAll [] = some [] := id rfl
@[simp] theorem valAll_val (p : P) (ws : List W) : valAll (.val p :: ws) = (valAll ws).map (p :: ·) := id rfl
@[simp] theorem valAll_map (f : α → P) : ∀ xs : List α, valAll (xs.map fun x => .val (f x)) = some (xs.map f)
  | [] => rfl
  | x :: xs => by rw [List.map_cons, valAll_val, valAll_map f xs]; rfl
@[simp] theorem valAll_ps (xs : List P) : valAll (xs.map .val) = some xs := by have := valAll_map id xs; simpa using this
@[simp] theorem valAll_append (xs ys : List W) : valAll (xs ++ ys) = (valAll xs).bind fun a => (valAll ys).map fun b => a ++ b := by
  induction xs with
  | nil => simp
  | cons w xs ih =>
    cases w with
    | loc n => rfl
    | exc => rfl
    | val p =>
      rw [List.cons_append, valAll_val, valAll_val, ih]
      cases valAll xs <;> cases valAll ys <;> rfl
theorem doFrz_lst {S : Store} {n : Nat} {ws : List W} {ps : List P} (h : S[n]? = some (.lst ws)) (hv : valAll ws = some ps) : doFrz (.loc n) S = .ok (.lst ps) (S.set n (.frz (.lst ps))) := by
  simp [doFrz, frz, frz1, h, hv]
theorem doFrz_frz {S : Store} {n : Nat} {p : P} (h : S[n]? = some (.frz p)) : doFrz (.loc n) S = .ok p S := by
  simp [doFrz, frz, frz1, h]
/-! displays, calls -/
@[simp] theorem eTup_ap (fa : FE (List W)) (ρ : Env) (S : Store) : eTup fa ρ S = (fa ρ S).bind fun ws S1 => (doFrzs ws S1).bind fun ps S2 => if ps.length ≤ 100000 then .ok (.val (.tup ps)) S2 else .bad := id rfl
@[simp] theorem eLstP_ap (fa : FE (List W)) (ρ : Env) (S : Store) : eLstP fa ρ S = (fa ρ S).bind fun ws S1 => (doFrzs ws S1).bind fun ps S2 => if ps.length ≤ 100000 then .ok (.val (.lst ps)) S2 else .bad := id rfl
@[simp] theorem eLst_ap (fa : FE (List W)) (ρ : Env) (S : Store) : eLst fa ρ S = (fa ρ S).bind fun ws S1 => if ws.length ≤ 100000 then .ok (.loc S1.length) (S1 ++ [.lst ws]) else .bad := id rfl
@[simp] theorem eCB_ap (op : List W → Store → RE W) (fa : FE (List W)) (ρ : Env) (S : Store) : eCB op fa ρ S = (fa ρ S).bind op := id rfl
@[simp] theorem eCall_ap (n : Nat) (g : List P → Rp) (fa : FE (List W)) (ρ : Env) (S : Store) : eCall n g fa ρ S = (fa ρ S).bind fun ws S1 => (doFrzs ws S1).bind fun ps S2 => if ps.length = n then liftP (g ps) S2 else .bad := id rfl
@[simp] theorem liftP_ok (p : P) (S : Store) : liftP (.ok p) S = .ok (.val p) S := id rfl
@[simp] theorem liftP_ex (p : Xn) (S : Store) : liftP (.ex p) S = .ex p S := id rfl
@[simp] theorem liftP_ite (c : Prop) [Decidable c] (a b : Rp) (S : Store) : liftP (if c then a else b) S = if c then liftP a S else liftP b S := by split <;> rfl
def isObjC (c m : Str) (p : P) : Bool := match p with
  | .obj c' ns _ => decide (c' = c) && !ns.contains m
  | _ => false
@[simp] theorem isObjC_obj (c m c' : Str) (ns : List Str) (qs : List P) : isObjC c m (.obj c' ns qs) = (decide (c' = c) && !ns.contains m) := id rfl
@[simp] theorem eMeth_ap (c m : Str) (n : Nat) (g : List P → Rp) (fo : FE W) (fa : FE (List W)) (ρ : Env) (S : Store) : eMeth c m n g fo fa ρ S = (fo ρ S).bind fun w S1 => (doFrz w S1).bind fun p S2 =>
    if isObjC c m p = true then (fa ρ S2).bind fun ws S3 => (doFrzs ws S3).bind fun ps S4 => if ps.length + 1 = n then liftP (g (p :: ps)) S4 else .bad else .bad := by
  unfold eMeth
  congr 1
  funext w S1
  congr 1
  funext p S2
  cases p with
  | obj c' ns qs =>
    simp only [isObjC_obj, Bool.and_eq_true, decide_eq_true_eq, Bool.not_eq_true']
  | _ => rfl
@[simp] theorem orBad_some (a : α) (S : Store) : orBad (some a) S = .ok a S := id rfl
@[simp] theorem orBad_none (S : Store) : orBad (none : Option α) S = .bad := id rfl
/-! sequences -/
@[simp] theorem seqW_lst (S : Store) (ps : List P) : seqW S (.val (.lst ps)) = some (ps.map .val) := id rfl
@[simp] theorem seqW_scr (S : Store) (ns : List Int) : seqW S (.val (.scr ns)) = some (ns.map fun n => .val (.int n)) := id rfl
theorem seqW_loc {S : Store} {n : Nat} {ws : List W} (h : S[n]? = some (.lst ws)) : seqW S (.loc n) = some ws := by simp [seqW, h]
@[simp] theorem lenW_lst (S : Store) (ps : List P) : lenW [.val (.lst ps)] S = .ok (.val (.int ps.length)) S := by simp [lenW, lenOf]
@[simp] theorem lenW_tup (S : Store) (ps : List P) : lenW [.val (.tup ps)] S = .ok (.val (.int ps.length)) S := by simp [lenW, lenOf]
@[simp] theorem lenW_scr (S : Store) (ps : List Int) : lenW [.val (.scr ps)] S = .ok (.val (.int ps.length)) S := by simp [lenW, lenOf]
@[simp] theorem lenW_loc (S : Store) (n : Nat) : lenW [.loc n] S = orBad ((seqW S (.loc n)).map fun ws => W.val (.int (ws.length : Int))) S := by
  cases h : seqW S (.loc n) <;> simp [lenW, lenOf, h]
@[simp] theorem absW_int (S : Store) (i : Int) : absW [.val (.int i)] S = .ok (.val (.int (if i < 0 then -i else i))) S := id rfl
@[simp] theorem intW_int (S : Store) (i : Int) : intW [.val (.int i)] S = .ok (.val (.int i)) S := id rfl
@[simp] theorem intW_bl (S : Store) (i : Bool) : intW [.val (.bl i)] S = .ok (.val (.int (if i = true then 1 else 0))) S := id rfl
@[simp] theorem max2W_int (S : Store) (i j : Int) : max2W [.val (.int i), .val (.int j)] S = .ok (.val (.int (if j > i then j else i))) S := id rfl
@[simp] theorem min2W_int (S : Store) (i j : Int) : min2W [.val (.int i), .val (.int j)] S = .ok (.val (.int (if j < i then j else i))) S := id rfl
@[simp] theorem intsOf_map (f : α → Int) : ∀ xs : List α, intsOf (xs.map fun x => .int (f x)) = some (xs.map f)
  | [] => rfl
  | x :: xs => by simp [intsOf, intsOf_map f xs]
@[simp] theorem intsOf_ints (xs : List Int) : intsOf (xs.map .int) = some xs := by have := intsOf_map id xs; simpa using this
@[simp] theorem boolsOf_map (f : α → Bool) : ∀ xs : List α, boolsOf (xs.map fun x => .bl (f x)) = some (xs.map f)
  | [] => rfl
  | x :: xs => by simp [boolsOf, boolsOf_map f xs]
@[simp] theorem intsOf_nil : intsOf [] = some [] := id rfl
@[simp] theorem intsOf_cons (i : Int) (ps : List P) : intsOf (.int i :: ps) = (intsOf ps).map (i :: ·) := id rfl
@[simp] theorem boolsOf_nil : boolsOf [] = some [] := id rfl
@[simp] theorem boolsOf_cons (i : Bool) (ps : List P) : boolsOf (.bl i :: ps) = (boolsOf ps).map (i :: ·) := id rfl
@[simp] theorem rngP_len (lo : Int) (n : Nat) : (rngP lo n).length = n := by simp [rngP]
theorem rngP_eq (n : Nat) : rngP 0 n = (List.range n).map fun (k : Nat) => P.int (0 + (k : Int)) := id rfl
@[simp] theorem sumW_lst (ps : List P) (S : Store) : sumW [.val (.lst ps)] S = orBad ((intsOf ps).map fun ns => .val (.int ns.sum)) S := id rfl
@[simp] theorem allW_lst (ev : Bool) (ps : List P) (S : Store) : allW ev [.val (.lst ps)] S = orBad ((boolsOf ps).map fun bs => .val (.bl (if ev = true then bs.all id else bs.any id))) S := id rfl
theorem atI_in {xs : List α} {i : Int} (h0 : 0 ≤ i) (h1 : i < xs.length) : atI xs i = xs[i.toNat]? := by
  obtain ⟨j, rfl⟩ := Int.eq_ofNat_of_zero_le h0
  have h : j < xs.length := by omega
  rw [List.getElem?_eq_getElem h |> atI_nat]
  simp [h]
@[simp] theorem atI_map (f : α → β) (xs : List α) (i : Int) : atI (xs.map f) i = (atI xs i).map f := by
  unfold atI
  rw [List.length_map]
  cases ixN xs.length i <;> simp
@[simp] theorem ixW_tup (ps : List P) (i : Int) (S : Store) : ixW (.val (.tup ps)) (.val (.int i)) S = orBad ((atI ps i).map .val) S := id rfl
@[simp] theorem ixW_lst (ps : List P) (i : Int) (S : Store) : ixW (.val (.lst ps)) (.val (.int i)) S = orBad ((atI ps i).map .val) S := by simp [ixW]
@[simp] theorem ixW_scr (ps : List Int) (i : Int) (S : Store) : ixW (.val (.scr ps)) (.val (.int i)) S = orBad ((atI ps i).map fun n => .val (.int n)) S := by simp [ixW]
theorem ixW_loc (n : Nat) (i : Int) (S : Store) : ixW (.loc n) (.val (.int i)) S = match seqW S (.loc n) with
  | some ws => orBad (atI ws i) S
  | none => .bad := rfl
theorem atI_nn (xs : List α) (n : Nat) : atI xs (n : Int) = xs[n]? := by
  by_cases h : n < xs.length
  · rw [atI_in (by omega) (by omega)]; simp
  · have : ¬ (n : Int) < xs.length := by omega
    simp [atI, ixN, this]
    omega
@[simp] theorem atI_cons_lit (x : α) (xs : List α) (n : Nat) : atI (x :: xs) (no_index (OfNat.ofNat n)) = (x :: xs)[n]? := atI_nn _ n
@[simp] theorem atI_last1 (x : α) : atI [x] (-1) = some x := id rfl
@[simp] theorem atI_snoc (xs : List α) (x : α) : atI (xs ++ [x]) (-1) = some x := atI_last _ _
/-- the item of a list of numbers, 0 outside -/
def gi (xs : List Int) (i : Int) : Int := xs.getD i.toNat 0
theorem atI_gi {xs : List Int} {i : Int} (h0 : 0 ≤ i) (h1 : i < xs.length) : atI xs i = some (gi xs i) := by
  rw [atI_in h0 h1]
  have : i.toNat < xs.length := by omega
  simp [gi, List.getD, this]
theorem gi_mem {xs : List Int} {i : Int} (h0 : 0 ≤ i) (h1 : i < xs.length) : gi xs i ∈ xs := by
  have : i.toNat < xs.length := by omega
  simp [gi, List.getD, this]
/-! loops -/
@[simp] theorem iSeq_ap (f : FE W) (ρ : Env) (S : Store) : iSeq f ρ S = (f ρ S).bind itemsW := id rfl
@[simp] theorem itemsW_lst (ps : List P) (S : Store) : itemsW (.val (.lst ps)) S = .ok ps S := id rfl
@[simp] theorem itemsW_tup (ps : List P) (S : Store) : itemsW (.val (.tup ps)) S = .ok ps S := id rfl
@[simp] theorem itemsW_scr (ps : List Int) (S : Store) : itemsW (.val (.scr ps)) S = .ok (ps.map .int) S := id rfl
def rngR1 (ws : List W) (S1 : Store) : RE (List P) := match ws with
  | [.val (.int j)] => if rngOk 0 j = true then .ok (rngP 0 j.toNat) S1 else .bad
  | _ => .bad
@[simp] theorem iRange1_ap (fa : FE (List W)) (ρ : Env) (S : Store) : iRange1 fa ρ S = (fa ρ S).bind rngR1 := id rfl
@[simp] theorem rngR1_int (j : Int) (S : Store) : rngR1 [.val (.int j)] S = if rngOk 0 j = true then .ok (rngP 0 j.toNat) S else .bad := id rfl
def rngR2 (ws : List W) (S1 : Store) : RE (List P) := match ws with
  | [.val (.int i), .val (.int j)] => if rngOk i j = true then .ok (rngP i (j - i).toNat) S1 else .bad
  | _ => .bad
@[simp] theorem iRange2_ap (fa : FE (List W)) (ρ : Env) (S : Store) : iRange2 fa ρ S = (fa ρ S).bind rngR2 := id rfl
@[simp] theorem rngR2_int (i j : Int) (S : Store) : rngR2 [.val (.int i), .val (.int j)] S = if rngOk i j = true then .ok (rngP i (j - i).toNat) S else .bad := id rfl
theorem rngOk_of {i j : Int} (h1 : -4611686018427387904 ≤ i) (h2 : i < 4611686018427387904) (h3 : -4611686018427387904 ≤ j) (h4 : j < 4611686018427387904) : rngOk i j = true := by
  unfold rngOk
  simp only [Bool.and_eq_true, decide_eq_true_eq]
  exact ⟨⟨⟨h1, h2⟩, h3⟩, h4⟩
def zipR (ps : List P) (S2 : Store) : RE (List P) := match ps with
  | [.lst xs, .lst ys] => .ok ((xs.zip ys).map fun q => .tup [q.1, q.2]) S2
  | _ => .bad
@[simp] theorem iZip_ap (fa : FE (List W)) (ρ : Env) (S : Store) : iZip fa ρ S = (fa ρ S).bind fun ws S1 => (doFrzs ws S1).bind zipR := id rfl
@[simp] theorem zipR_lst (xs ys : List P) (S : Store) : zipR [.lst xs, .lst ys] S = .ok ((xs.zip ys).map fun q => .tup [q.1, q.2]) S := id rfl
def enumR (ps : List P) (S2 : Store) : RE (List P) := match ps with
  | [.lst xs] => .ok (((List.range xs.length).zip xs).map fun q => .tup [.int (q.1 : Int), q.2]) S2
  | _ => .bad
@[simp] theorem iEnum_ap (fa : FE (List W)) (ρ : Env) (S : Store) : iEnum fa ρ S = (fa ρ S).bind fun ws S1 => (doFrzs ws S1).bind enumR := id rfl
@[simp] theorem enumR_lst (xs : List P) (S : Store) : enumR [.lst xs] S = .ok (((List.range xs.length).zip xs).map fun q => .tup [.int (q.1 : Int), q.2]) S := id rfl
@[simp] theorem forGo_nil (t : Tg) (body : FS) (ρ : Env) (S : Store) : forGo t body [] ρ S = .nx ρ S := id rfl
/-- one round -/
def R.round (r : R) (k : Env → Store → R) : R := match r with
  | .nx ρ S => k ρ S
  | .ct ρ S => k ρ S
  | .bk ρ S => .nx ρ S
  | r => r
@[simp] theorem rd_nx (ρ : Env) (S : Store) (g : FS) : (R.nx ρ S).round g = g ρ S := id rfl
@[simp] theorem rd_rt (w : W) (S : Store) (g : FS) : (R.rt w S).round g = .rt w S := id rfl
@[simp] theorem rd_bk (ρ : Env) (S : Store) (g : FS) : (R.bk ρ S).round g = .nx ρ S := id rfl
@[simp] theorem rd_ct (ρ : Env) (S : Store) (g : FS) : (R.ct ρ S).round g = g ρ S := id rfl
@[simp] theorem rd_ex (x : Xn) (ρ : Env) (S : Store) (g : FS) : (R.ex x ρ S).round g = .ex x ρ S := id rfl
@[simp] theorem rd_bad (g : FS) : R.bad.round g = .bad := id rfl
@[simp] theorem rd_ite (c : Prop) [Decidable c] (a b : R) (g : FS) : (if c then a else b).round g = if c then a.round g else b.round g := by split <;> rfl
theorem forGo_cons (t : Tg) (body : FS) (p : P) (ps : List P) (ρ : Env) (S : Store) : forGo t body (p :: ps) ρ S = ((bindR (bindT t p ρ) S).seq body).round (forGo t body ps) := by
  rw [forGo]
  cases h : bindT t p ρ with
  | none => rfl
  | some ρ1 => simp only [bindR_some, rs_nx]; cases h2 : body ρ1 S <;> rfl
/-- a loop that goes on to its end, with an invariant over what is left -/
theorem forGo_inv (E : σ → Env) (T : σ → Store) (enc : α → P) (I : List α → σ → Prop) {t : Tg} {body : FS} (step : ∀ a r s, I (a :: r) s → ∃ s', (bindR (bindT t (enc a) (E s)) (T s)).seq body = .nx (E s') (T s') ∧ I r s') :
    ∀ xs s, I xs s → ∃ s', forGo t body (xs.map enc) (E s) (T s) = .nx (E s') (T s') ∧ I [] s'
  | [], s, h => ⟨s, rfl, h⟩
  | a :: r, s, h => by
    obtain ⟨s1, e1, h1⟩ := step a r s h
    obtain ⟨s2, e2, h2⟩ := forGo_inv E T enc I step r s1 h1
    exact ⟨s2, by rw [List.map_cons, forGo_cons, e1, rd_nx, e2], h2⟩
/-- a loop over a range -/
theorem forGo_rng (E : σ → Env) (T : σ → Store) (J : Nat → σ → Prop) {t : Tg} {body : FS} {lo : Int} {n : Nat} (step : ∀ k s, k < n → J k s → ∃ s', (bindR (bindT t (.int (lo + (k : Int))) (E s)) (T s)).seq body = .nx (E s') (T s') ∧ J (k + 1) s') {s : σ} (h : J 0 s) :
    ∃ s', forGo t body (rngP lo n) (E s) (T s) = .nx (E s') (T s') ∧ J n s' := by
  have key : ∀ (m k : Nat), k + m = n → ∀ s, J k s → ∃ s', forGo t body ((List.range' k m).map fun (k : Nat) => P.int (lo + (k : Int))) (E s) (T s) = .nx (E s') (T s') ∧ J n s' := by
    intro m
    induction m with
    | zero => intro k hk s h; simp at hk; subst hk; exact ⟨s, rfl, h⟩
    | succ m ih =>
      intro k hk s h
      obtain ⟨s1, e1, h1⟩ := step k s (by omega) h
      obtain ⟨s2, e2, h2⟩ := ih (k + 1) (by omega) s1 h1
      refine ⟨s2, ?_, h2⟩
      rw [List.range'_succ, List.map_cons, forGo_cons, e1, rd_nx]
      exact e2
  unfold rngP
  rw [List.range_eq_range']
  exact key n 0 (by omega) s h
/-- a plain fold -/
theorem forGo_fold (E : σ → Env) (T : σ → Store) (enc : α → P) (f : σ → α → σ) {t : Tg} {body : FS} {xs : List α} (step : ∀ a s, a ∈ xs → (bindR (bindT t (enc a) (E s)) (T s)).seq body = .nx (E (f s a)) (T (f s a))) (s : σ) :
    forGo t body (xs.map enc) (E s) (T s) = .nx (E (xs.foldl f s)) (T (xs.foldl f s)) := by
  induction xs generalizing s with
  | nil => rfl
  | cons a r ih =>
    rw [List.map_cons, forGo_cons, step a s List.mem_cons_self, rd_nx, List.foldl_cons]
    exact ih (fun a s h => step a s (List.mem_cons_of_mem _ h)) _
/-! comprehensions -/
@[simp] theorem eLc_ap (fi : FI) (vs : List Nat) (t : Tg) (c : FE Bool) (e : FE W) (ρ : Env) (S : Store) : eLc fi vs t c e ρ S = (fi ρ S).bind fun ps S1 => if ps.length ≤ 100000 then (lcGo vs t c e ρ ps S1).bind fun qs S2 => .ok (.val (.lst qs)) S2 else .bad := id rfl
@[simp] theorem lcGo_nil (vs : List Nat) (t : Tg) (c : FE Bool) (e : FE W) (ρ : Env) (S : Store) : lcGo vs t c e ρ [] S = .ok [] S := id rfl
theorem lcGo_map {vs : List Nat} {t : Tg} {e : FE W} {ρ : Env} {S : Store} (enc : α → P) (g : α → P) {xs : List α} (h : ∀ a ∈ xs, ∃ ρ1, bindT t (enc a) (wipeE ρ vs) = some ρ1 ∧ e ρ1 S = .ok (.val (g a)) S) :
    lcGo vs t cYes e ρ (xs.map enc) S = .ok (xs.map g) S := by
  induction xs with
  | nil => rfl
  | cons a r ih =>
    obtain ⟨ρ1, h1, h2⟩ := h a List.mem_cons_self
    rw [List.map_cons, lcGo, h1]
    simp only [cYes_ap, noEx, rb_ok, if_true, h2, doFrz_val, ih fun a h' => h a (List.mem_cons_of_mem _ h')]
    rfl
theorem lcGo_rng {vs : List Nat} {t : Tg} {e : FE W} {ρ : Env} {S : Store} {n : Nat} (g : Nat → P) (h : ∀ k : Nat, k < n → ∃ ρ1, bindT t (.int (0 + (k : Int))) (wipeE ρ vs) = some ρ1 ∧ e ρ1 S = .ok (.val (g k)) S) :
    lcGo vs t cYes e ρ (rngP 0 n) S = .ok ((List.range n).map g) S := lcGo_map _ g fun k hk => h k (List.mem_range.mp hk)
theorem lc_id (f : α → P) {i : Nat} {ρ : Env} {S : Store} {xs : List α} (h : i < ρ.length) : lcGo [i] (.nm i) cYes (eVar i) ρ (xs.map f) S = .ok (xs.map f) S := by
  refine lcGo_map f f fun a _ => ⟨_, bindT_nm _ _ _, ?_⟩
  show eVar i ((List.set ρ i none).set i (some (.val (f a)))) S = _
  simp [eVar, h]
theorem lcGo_filter {vs : List Nat} {t : Tg} {c : FE Bool} {e : FE W} {ρ : Env} {S : Store} (enc : α → P) (b : α → Bool) (g : α → P) {xs : List α} (h : ∀ a ∈ xs, ∃ ρ1, bindT t (enc a) (wipeE ρ vs) = some ρ1 ∧ c ρ1 S = .ok (b a) S ∧ (b a = true → e ρ1 S = .ok (.val (g a)) S)) :
    lcGo vs t c e ρ (xs.map enc) S = .ok ((xs.filter b).map g) S := by
  induction xs with
  | nil => rfl
  | cons a r ih =>
    obtain ⟨ρ1, h1, h2, h3⟩ := h a List.mem_cons_self
    have ih := ih fun a h' => h a (List.mem_cons_of_mem _ h')
    rw [List.map_cons, lcGo, h1]
    simp only [h2, noEx, rb_ok]
    cases hb : b a with
    | false => simp only [Bool.false_eq_true, if_false, ih, List.filter_cons, hb]
    | true => simp only [if_true, h3 hb, noEx, rb_ok, doFrz_val, ih, List.filter_cons, hb, List.map_cons]
@[simp] theorem wipe_nil (ρ : Env) : wipeE ρ [] = ρ := id rfl
@[simp] theorem wipe_cons (ρ : Env) (v : Nat) (vs : List Nat) : wipeE ρ (v :: vs) = (wipeE ρ vs).set v none := id rfl
/-! a def's end -/
def R.fin (r : R) : Rp := match r with
  | .rt w S => match frz S w with
    | some (p, _) => .ok p
    | none => .bad
  | .nx _ _ => .ok .non
  | .ex x _ _ => .ex x
  | _ => .bad
theorem runP_ap (m : Nat) (body : FS) (ds : List P) : runP m body ds = (body (envOf ds m) []).fin := id rfl
@[simp] theorem fin_val (p : P) (S : Store) : (R.rt (.val p) S).fin = .ok p := id rfl
theorem fin_lst {S : Store} {n : Nat} {ws : List W} {ps : List P} (h : S[n]? = some (.lst ws)) (hv : valAll ws = some ps) : (R.rt (.loc n) S).fin = .ok (.lst ps) := by
  simp [R.fin, frz, frz1, h, hv]
theorem fin_frz {S : Store} {n : Nat} {p : P} (h : S[n]? = some (.frz p)) : (R.rt (.loc n) S).fin = .ok p := by
  simp [R.fin, frz, frz1, h]
@[simp] theorem fin_nx (ρ : Env) (S : Store) : (R.nx ρ S).fin = .ok .non := id rfl
@[simp] theorem fin_ex (x : Xn) (ρ : Env) (S : Store) : (R.ex x ρ S).fin = .ex x := id rfl
@[simp] theorem fin_bad : R.bad.fin = .bad := id rfl
@[simp] theorem fin_ite (c : Prop) [Decidable c] (a b : R) : (if c then a else b).fin = if c then a.fin else b.fin := by split <;> rfl
theorem envOf_ap (ds : List P) (m : Nat) : envOf ds m = (ds.map fun p => some (W.val p)) ++ List.replicate (m - ds.length) none := id rfl
/-! methods of lists -/
@[simp] theorem eBM_ap (T : String) (op : W → List W → Store → RE W) (fo : FE W) (fa : FE (List W)) (ρ : Env) (S : Store) : eBM T op fo fa ρ S = (fo ρ S).bind fun w S1 => if isTy T S1 w = true then (fa ρ S1).bind fun ws S2 => op w ws S2 else .bad := id rfl
@[simp] theorem eBM0_ap (T : String) (op : W → List W → Store → RE W) (fo : FE W) (ρ : Env) (S : Store) : eBM0 T op fo ρ S = (fo ρ S).bind fun w S1 => if isTy T S1 w = true then op w [] S1 else .bad := id rfl
@[simp] theorem isTy_loc (S : Store) (n : Nat) : isTy "list" S (.loc n) = (seqW S (.loc n)).isSome := by simp [isTy]
theorem appendW_loc {S : Store} {n : Nat} {xs : List W} {w : W} (h : S[n]? = some (.lst xs)) (hl : xs.length < 100000) : appendW (.loc n) [w] S = .ok (.val .non) (S.set n (.lst (xs ++ [w]))) := by
  simp [appendW, liveL, h, hl]
theorem insertW_loc {S : Store} {n : Nat} {xs : List W} {w : W} {i : Int} (h : S[n]? = some (.lst xs)) (hl : xs.length < 100000) (h0 : 0 ≤ i) (h1 : i < 4611686018427387904) : insertW (.loc n) [.val (.int i), w] S = .ok (.val .non) (S.set n (.lst (xs.take i.toNat ++ [w] ++ xs.drop i.toNat))) := by
  simp [insertW, liveL, h, hl, h0, h1]
/-! fields -/
@[simp] theorem eFld_ap (c f : Str) (fa : FE W) (ρ : Env) (S : Store) : eFld c f fa ρ S = (fa ρ S).bind fun w S1 => orBad (fldOf c f S1 w) S1 := id rfl
@[simp] theorem fldOf_obj (c f c' : Str) (S : Store) (ns : List Str) (ps : List P) : fldOf c f S (.val (.obj c' ns ps)) = if c' = c then (lookA f ns ps).map .val else none := id rfl
theorem fldOf_ins {S : Store} {n : Nat} {c f c' : Str} {ns : List Str} {ws : List W} (h : S[n]? = some (.ins c' ns ws)) : fldOf c f S (.loc n) = if c' = c then lookA f ns ws else none := by simp [fldOf, h]
/-! isinstance -/
@[simp] theorem isiW_val (T : String) (p : P) (S : Store) : isiW T (.val p) S = orBad ((tyN p).map fun t => .val (.bl (isi t T))) S := id rfl
@[simp] theorem tyN_non : tyN .non = some "NoneType" := id rfl
@[simp] theorem tyN_bl (b : Bool) : tyN (.bl b) = some "bool" := id rfl
@[simp] theorem tyN_int (b : Int) : tyN (.int b) = some "int" := id rfl
@[simp] theorem tyN_str (b : Str) : tyN (.str b) = some "str" := id rfl
@[simp] theorem tyN_tup (b : List P) : tyN (.tup b) = some "tuple" := id rfl
@[simp] theorem tyN_lst (b : List P) : tyN (.lst b) = some "list" := id rfl
/-! try -/
def R.tryR (M : Str → Str → Option Bool) (hs : List (Str × FS)) (r : R) : R := match r with
  | .ex x ρ' S' => tryGo M hs x ρ' S'
  | r => r
@[simp] theorem tryR_nx (M : Str → Str → Option Bool) (hs : List (Str × FS)) (ρ : Env) (S : Store) : (R.nx ρ S).tryR M hs = .nx ρ S := id rfl
@[simp] theorem tryR_rt (M : Str → Str → Option Bool) (hs : List (Str × FS)) (w : W) (S : Store) : (R.rt w S).tryR M hs = .rt w S := id rfl
@[simp] theorem tryR_ex (M : Str → Str → Option Bool) (hs : List (Str × FS)) (x : Xn) (ρ : Env) (S : Store) : (R.ex x ρ S).tryR M hs = tryGo M hs x ρ S := id rfl
@[simp] theorem tryR_bad (M : Str → Str → Option Bool) (hs : List (Str × FS)) : R.bad.tryR M hs = .bad := id rfl
@[simp] theorem tryR_ite (M : Str → Str → Option Bool) (hs : List (Str × FS)) (c : Prop) [Decidable c] (a b : R) : (if c then a else b).tryR M hs = if c then a.tryR M hs else b.tryR M hs := by split <;> rfl
def R.noEx (r : R) : R := match r with
  | .ex _ _ _ => .bad
  | r => r
@[simp] theorem nx_noEx (ρ : Env) (S : Store) : (R.nx ρ S).noEx = .nx ρ S := id rfl
@[simp] theorem rt_noEx (ρ : W) (S : Store) : (R.rt ρ S).noEx = .rt ρ S := id rfl
theorem tryGo_no (M : Str → Str → Option Bool) (c : Str) (f : FS) (hs : List (Str × FS)) (x : Xn) (ρ : Env) (S : Store) (h : M x.cls c = some false) : tryGo M ((c, f) :: hs) x ρ S = tryGo M hs x ρ S := by rw [tryGo, h]
theorem tryGo_yes (M : Str → Str → Option Bool) (c : Str) (f : FS) (hs : List (Str × FS)) (x : Xn) (ρ : Env) (S : Store) (h : M x.cls c = some true) : tryGo M ((c, f) :: hs) x ρ S = (f ρ S).noEx := by
  rw [tryGo, h]
  cases hf : f ρ S <;> simp [R.noEx, hf]
@[simp] theorem tryGo_nil (M : Str → Str → Option Bool) (x : Xn) (ρ : Env) (S : Store) : tryGo M [] x ρ S = .ex x ρ S := id rfl
@[simp] theorem sTry_ap (M : Str → Str → Option Bool) (body : FS) (hs : List (Str × FS)) (ρ : Env) (S : Store) : sTry M body hs ρ S = (body ρ S).tryR M hs := id rfl
@[simp] theorem get_z (c : α) (l : List α) : (c :: l)[0]? = some c := id rfl
@[simp] theorem get_s (c : α) (l : List α) (n : Nat) : (c :: l)[n + 1]? = l[n]? := id rfl
/-! cells -/
def itemsC (S : Store) (n : Nat) (o : Option Cell) : RE (List P) := match o with
  | some (.lst ws) => match valAll ws with
    | some ps => .ok ps (S.set n (.frz (.lst ps)))
    | none => .bad
  | some (.frz (.lst ps)) => .ok ps S
  | _ => .bad

def seqC : Option Cell → Option (List W)
  | some (.lst ws) => some ws
  | some (.frz (.lst ps)) => some (ps.map .val)
  | _ => none
@[simp] theorem seqW_locC (S : Store) (n : Nat) : seqW S (.loc n) = seqC S[n]? := by
  unfold seqW seqC
  rfl
@[simp] theorem seqC_lst (ws : List W) : seqC (some (.lst ws)) = some ws := id rfl
@[simp] theorem seqC_frz (ps : List P) : seqC (some (.frz (.lst ps))) = some (ps.map .val) := id rfl
def liveC (o : Option Cell) (k : List W → RE W) : RE W := match o with
  | some (.lst ws) => k ws
  | _ => .bad
@[simp] theorem liveC_lst (ws : List W) (k : List W → RE W) : liveC (some (.lst ws)) k = k ws := id rfl
@[simp] theorem appendW_ap (S : Store) (n : Nat) (w : W) : appendW (.loc n) [w] S = liveC S[n]? fun xs => if xs.length < 100000 then .ok (.val .non) (S.set n (.lst (xs ++ [w]))) else .bad := by
  unfold appendW liveL
  cases h : S[n]? with
  | none => simp [h, liveC]
  | some c => cases c <;> simp [h, liveC]
@[simp] theorem insertW_ap (S : Store) (n : Nat) (i : Int) (w : W) : insertW (.loc n) [.val (.int i), w] S = liveC S[n]? fun xs => if xs.length < 100000 ∧ 0 ≤ i ∧ i < 4611686018427387904 then .ok (.val .non) (S.set n (.lst (xs.take i.toNat ++ [w] ++ xs.drop i.toNat))) else .bad := by
  unfold insertW liveL
  cases h : S[n]? with
  | none => simp [h, liveC]
  | some c => cases c <;> simp [h, liveC]
def optR (o : Option α) (k : α → RE β) : RE β := match o with
  | some a => k a
  | none => .bad
@[simp] theorem optR_some (a : α) (k : α → RE β) : optR (some a) k = k a := id rfl
@[simp] theorem optR_none (k : α → RE β) : optR none k = .bad := id rfl
def frzC (S : Store) (n : Nat) (o : Option Cell) : RE P := match o with
  | some (.lst ws) => optR (valAll ws) fun ps => .ok (.lst ps) (S.set n (.frz (.lst ps)))
  | some (.frz p) => .ok p S
  | some (.ins c ns ws) => optR (frzs1 S ws) fun r => optR (r.2[n]?) fun _ => .ok (.obj c ns r.1) (r.2.set n (.frz (.obj c ns r.1)))
  | some (.dct ks ws) => optR (valAll ws) fun ps => .ok (.dct ks ps) (S.set n (.frz (.dct ks ps)))
  | some (.dcu ks ws) => optR (valAll ws) fun ps => .ok (.dcu ks ps) (S.set n (.frz (.dcu ks ps)))
  | none => .bad
theorem frzs1_cells {S S' : Store} : ∀ {ws : List W} {ps : List P}, frzs1 S ws = some (ps, S') → ∀ (n : Nat) (c : Str) (ns : List Str) (us : List W), S[n]? = some (.ins c ns us) → S'[n]? = some (.ins c ns us)
  | [], ps, e, n, c, ns, us, h => by cases e; exact h
  | w :: ws, ps, e, n, c, ns, us, h => by
    unfold frzs1 at e
    simp only [Option.bind_eq_some_iff, Option.map_eq_some_iff] at e
    obtain ⟨⟨p, S1⟩, e1, ⟨qs, S2⟩, e2, e3⟩ := e
    cases e3
    have h1 : S1[n]? = some (.ins c ns us) := by
      unfold frz1 at e1
      split at e1
      · cases e1; exact h
      · rename_i m
        split at e1
        all_goals first
          | (cases e1; done)
          | (cases e1; exact h)
          | (rename_i hm
             simp only [Option.map_eq_some_iff] at e1
             obtain ⟨ps', _, e1⟩ := e1
             cases e1
             rw [List.getElem?_set_ne]
             · exact h
             · rintro rfl
               rw [h] at hm; cases hm)
      · cases e1
    exact frzs1_cells e2 n c ns us h1
@[simp] theorem doFrz_loc (S : Store) (n : Nat) : doFrz (.loc n) S = frzC S n S[n]? := by
  unfold doFrz
  cases h : S[n]? with
  | none => simp [frz, frz1, h, frzC]
  | some c =>
    cases c with
    | lst ws => cases hv : valAll ws <;> simp [frz, frz1, h, frzC, hv]
    | dct ks ws => cases hv : valAll ws <;> simp [frz, frz1, h, frzC, hv]
    | dcu ks ws => cases hv : valAll ws <;> simp [frz, frz1, h, frzC, hv]
    | frz p => simp [frz, frz1, h, frzC]
    | ins c ns ws =>
      cases hf : frzs1 S ws with
      | none => simp [frz, h, frzC, hf]
      | some r =>
        obtain ⟨ps, S'⟩ := r
        have h2 := frzs1_cells hf n c ns ws h
        simp [frz, h, frzC, hf, h2]
@[simp] theorem frzC_lst (S : Store) (n : Nat) (ws : List W) : frzC S n (some (.lst ws)) = optR (valAll ws) fun ps => .ok (.lst ps) (S.set n (.frz (.lst ps))) := id rfl
@[simp] theorem frzC_dct (S : Store) (n : Nat) (ks : List Key) (ws : List W) : frzC S n (some (.dct ks ws)) = optR (valAll ws) fun ps => .ok (.dct ks ps) (S.set n (.frz (.dct ks ps))) := id rfl
@[simp] theorem frzC_dcu (S : Store) (n : Nat) (ks : List (List Key)) (ws : List W) : frzC S n (some (.dcu ks ws)) = optR (valAll ws) fun ps => .ok (.dcu ks ps) (S.set n (.frz (.dcu ks ps))) := id rfl
@[simp] theorem frzC_frz (S : Store) (n : Nat) (p : P) : frzC S n (some (.frz p)) = .ok p S := id rfl
@[simp] theorem frzC_ins (S : Store) (n : Nat) (c : Str) (ns : List Str) (ws : List W) : frzC S n (some (.ins c ns ws)) = optR (frzs1 S ws) fun r => optR (r.2[n]?) fun _ => .ok (.obj c ns r.1) (r.2.set n (.frz (.obj c ns r.1))) := id rfl
def addO (a b : Option P) (S : Store) : RE W := match a, b with
  | some (.int i), some (.int j) => .ok (.val (.int (i + j))) S
  | some (.str x), some (.str y) => if x.length + y.length ≤ 1000000 then .ok (.val (.str (x ++ y))) S else .bad
  | some (.tup ps), some (.tup qs) => if ps.length + qs.length ≤ 100000 then .ok (.val (.tup (ps ++ qs))) S else .bad
  | some (.lst ps), some (.lst qs) => if ps.length + qs.length ≤ 100000 then .ok (.val (.lst (ps ++ qs))) S else .bad
  | _, _ => .bad
@[simp] theorem addO_lst (i j : List P) (S : Store) : addO (some (.lst i)) (some (.lst j)) S = if i.length + j.length ≤ 100000 then .ok (.val (.lst (i ++ j))) S else .bad := id rfl
@[simp] theorem addW_loc_l (n : Nat) (b : W) (S : Store) : addW (.loc n) b S = addO (pOf S (.loc n)) (pOf S b) S := id rfl
@[simp] theorem addW_loc_r (n : Nat) (a : P) (S : Store) : addW (.val a) (.loc n) S = addO (some a) (pOf S (.loc n)) S := id rfl
@[simp] theorem eqW_loc_l (neg : Bool) (n : Nat) (b : W) (S : Store) : eqW neg (.loc n) b S = match pOf S (.loc n), pOf S b with
  | some p, some q => eqR neg (eqP p q) S
  | _, _ => .bad := id rfl
@[simp] theorem eqW_loc_r (neg : Bool) (n : Nat) (a : P) (S : Store) : eqW neg (.val a) (.loc n) S = match pOf S (.loc n) with
  | some q => eqR neg (eqP a q) S
  | _ => .bad := by
  unfold eqW
  cases h : pOf S (.loc n) with
  | none => rfl
  | some q => rfl
@[simp] theorem frzs1_nil (S : Store) : frzs1 S [] = some ([], S) := id rfl
@[simp] theorem frzs1_val (S : Store) (p : P) (ws : List W) : frzs1 S (.val p :: ws) = (frzs1 S ws).map fun q => (p :: q.1, q.2) := id rfl
def frz1C (S : Store) (n : Nat) (o : Option Cell) : Option (P × Store) := match o with
  | some (.lst ws) => (valAll ws).map fun ps => (.lst ps, S.set n (.frz (.lst ps)))
  | some (.dct ks ws) => (valAll ws).map fun ps => (.dct ks ps, S.set n (.frz (.dct ks ps)))
  | some (.dcu ks ws) => (valAll ws).map fun ps => (.dcu ks ps, S.set n (.frz (.dcu ks ps)))
  | some (.frz p) => some (p, S)
  | _ => none
@[simp] theorem frz1C_dct (S : Store) (n : Nat) (ks : List Key) (ws : List W) : frz1C S n (some (.dct ks ws)) = (valAll ws).map fun ps => (.dct ks ps, S.set n (.frz (.dct ks ps))) := id rfl
@[simp] theorem frz1C_dcu (S : Store) (n : Nat) (ks : List (List Key)) (ws : List W) : frz1C S n (some (.dcu ks ws)) = (valAll ws).map fun ps => (.dcu ks ps, S.set n (.frz (.dcu ks ps))) := id rfl
@[simp] theorem frz1C_lst (S : Store) (n : Nat) (ws : List W) : frz1C S n (some (.lst ws)) = (valAll ws).map fun ps => (.lst ps, S.set n (.frz (.lst ps))) := id rfl
@[simp] theorem frz1C_frz (S : Store) (n : Nat) (p : P) : frz1C S n (some (.frz p)) = some (p, S) := id rfl
@[simp] theorem frzs1_loc (S : Store) (n : Nat) (ws : List W) : frzs1 S (.loc n :: ws) = (frz1C S n S[n]?).bind fun r => (frzs1 r.2 ws).map fun q => (r.1 :: q.1, q.2) := id rfl
@[simp] theorem doFrzs_val (p : P) (ws : List W) (S : Store) : doFrzs (.val p :: ws) S = (doFrzs ws S).bind fun ps S2 => .ok (p :: ps) S2 := by rw [doFrzs_cons, doFrz_val, rb_ok]
@[simp] theorem doFrzs_loc (n : Nat) (ws : List W) (S : Store) : doFrzs (.loc n :: ws) S = (frzC S n S[n]?).bind fun p S1 => (doFrzs ws S1).bind fun ps S2 => .ok (p :: ps) S2 := by rw [doFrzs_cons, doFrz_loc]
def RE.finP (r : RE P) : Rp := match r with
  | .ok p _ => .ok p
  | _ => .bad
@[simp] theorem finP_ok (p : P) (S : Store) : (RE.ok p S).finP = .ok p := id rfl
theorem frz_doFrz (w : W) (S : Store) : (match frz S w with
    | some (p, _) => Rp.ok p
    | none => .bad) = (doFrz w S).finP := by
  unfold doFrz
  cases frz S w with
  | none => rfl
  | some r => rfl
@[simp] theorem fin_loc (n : Nat) (S : Store) : (R.rt (.loc n) S).fin = (frzC S n S[n]?).finP := by
  rw [← doFrz_loc]
  exact frz_doFrz _ _
def R.finI (r : R) : Rp := match r with
  | .nx _ S => (doFrz (.loc 0) S).finP
  | .rt (.val .non) S => (doFrz (.loc 0) S).finP
  | .ex x _ _ => .ex x
  | _ => .bad
theorem runI_ap (c : Str) (m : Nat) (body : FS) (ds : List P) : runI c m body ds = (body (some (.loc 0) :: envOf ds (m - 1)) [.ins c [] []]).finI := by
  unfold runI R.finI
  generalize body (some (.loc 0) :: envOf ds (m - 1)) [.ins c [] []] = r
  cases r with
  | nx ρ S => exact frz_doFrz _ _
  | rt w S =>
    cases w with
    | loc n => rfl
    | exc => rfl
    | val p => cases p <;> first | rfl | exact frz_doFrz _ _
  | _ => rfl
@[simp] theorem finI_nx (ρ : Env) (S : Store) : (R.nx ρ S).finI = (frzC S 0 S[0]?).finP := by rw [← doFrz_loc]; rfl
@[simp] theorem finI_non (S : Store) : (R.rt (.val .non) S).finI = (frzC S 0 S[0]?).finP := by rw [← doFrz_loc]; rfl
@[simp] theorem finI_ex (x : Xn) (ρ : Env) (S : Store) : (R.ex x ρ S).finI = .ex x := id rfl
@[simp] theorem finI_ite (c : Prop) [Decidable c] (a b : R) : (if c then a else b).finI = if c then a.finI else b.finI := by split <;> rfl
def pOfC : Option Cell → Option P
  | some (.lst ws) => (valAll ws).map .lst
  | some (.frz p) => some p
  | _ => none
@[simp] theorem pOf_val (S : Store) (p : P) : pOf S (.val p) = some p := id rfl
@[simp] theorem pOf_loc (S : Store) (n : Nat) : pOf S (.loc n) = pOfC S[n]? := by unfold pOf pOfC; rfl
@[simp] theorem pOfC_lst (ws : List W) : pOfC (some (.lst ws)) = (valAll ws).map .lst := id rfl
@[simp] theorem pOfC_frz (p : P) : pOfC (some (.frz p)) = some p := id rfl
def fldC (c f : Str) : Option Cell → Option W
  | some (.ins c' ns ws) => if c' = c then lookA f ns ws else none
  | some (.frz (.obj c' ns ps)) => if c' = c then (lookA f ns ps).map .val else none
  | _ => none
@[simp] theorem fldOf_loc (c f : Str) (S : Store) (n : Nat) : fldOf c f S (.loc n) = fldC c f S[n]? := by unfold fldOf fldC; rfl
@[simp] theorem fldC_ins (c f c' : Str) (ns : List Str) (ws : List W) : fldC c f (some (.ins c' ns ws)) = if c' = c then lookA f ns ws else none := id rfl
@[simp] theorem fldC_frz (c f c' : Str) (ns : List Str) (ws : List P) : fldC c f (some (.frz (.obj c' ns ws))) = if c' = c then (lookA f ns ws).map .val else none := id rfl
@[simp] theorem lookA_cons (f g : Str) (x : α) (ns : List Str) (xs : List α) : lookA f (g :: ns) (x :: xs) = if f = g then some x else lookA f ns xs := by
  unfold lookA
  rw [List.zip_cons_cons, List.lookup_cons]
  by_cases h : f = g
  · simp [h]
  · have : (f == g) = false := by simpa using h
    simp [h, this]
@[simp] theorem putN_nil (f : Str) : putN f [] = [f] := id rfl
@[simp] theorem putN_cons (f g : Str) (r : List Str) : putN f (g :: r) = if g = f then g :: r else g :: putN f r := id rfl
@[simp] theorem putA_nil (f : Str) (x : α) (xs : List α) : putA f x [] xs = [x] := id rfl
@[simp] theorem putA_cons (f g : Str) (x y : α) (r : List Str) (ys : List α) : putA f x (g :: r) (y :: ys) = if g = f then x :: ys else y :: putA f x r ys := id rfl
def insC (c : Str) (o : Option Cell) (k : List Str → List W → R) : R := match o with
  | some (.ins c' ns ws) => if c' = c ∧ ns.length < 1000 then k ns ws else .bad
  | _ => .bad
@[simp] theorem insC_ins (c c' : Str) (ns : List Str) (ws : List W) (k : List Str → List W → R) : insC c (some (.ins c' ns ws)) k = if c' = c ∧ ns.length < 1000 then k ns ws else .bad := id rfl
def locR (w : W) (k : Nat → R) : R := match w with
  | .loc n => k n
  | _ => .bad
@[simp] theorem locR_loc (n : Nat) (k : Nat → R) : locR (.loc n) k = k n := id rfl
@[simp] theorem sFldS_ap (c f : Str) (fo fv : FE W) (ρ : Env) (S : Store) : sFldS c f fo fv ρ S = (fv ρ S).toR ρ fun w S1 => (fo ρ S1).toR ρ fun o S2 => locR o fun n => insC c S2[n]? fun ns ws => .nx ρ (S2.set n (.ins c (putN f ns) (putA f w ns ws))) := by
  unfold sFldS
  congr 1
  funext w S1
  congr 1
  funext o S2
  cases o with
  | val p => rfl
  | exc => rfl
  | loc n =>
    simp only [locR_loc]
    unfold insC
    cases S2[n]? with
    | none => rfl
    | some c' =>
      cases c' with
      | ins c'' ns ws =>
        simp only
        split
        · rename_i h; rw [h.1]
        · rfl
      | _ => rfl
@[simp] theorem itemsW_loc (S : Store) (n : Nat) : itemsW (.loc n) S = itemsC S n S[n]? := by
  unfold itemsW itemsC frz1
  cases h : S[n]? with
  | none => simp [h]
  | some c =>
    cases c with
    | lst ws => cases h2 : valAll ws <;> simp [h, h2]
    | dct _ ws => cases h2 : valAll ws <;> simp [h, h2]
    | dcu _ ws => cases h2 : valAll ws <;> simp [h, h2]
    | frz p => cases p <;> simp [h]
    | ins _ _ _ => simp [h]
@[simp] theorem itemsC_lst (S : Store) (n : Nat) (ws : List W) : itemsC S n (some (.lst ws)) = optR (valAll ws) fun ps => .ok ps (S.set n (.frz (.lst ps))) := by
  cases h : valAll ws <;> simp [itemsC, h]
@[simp] theorem itemsC_frz (S : Store) (n : Nat) (ps : List P) : itemsC S n (some (.frz (.lst ps))) = .ok ps S := id rfl
/-- a loop over a range, the state told by a predicate -/
theorem forGo_rngJ (J : Nat → Env → Store → Prop) {t : Tg} {body : FS} {lo : Int} {n : Nat} (step : ∀ (k : Nat) ρ S, k < n → J k ρ S → ∃ ρ' S', (bindR (bindT t (.int (lo + (k : Int))) ρ) S).seq body = .nx ρ' S' ∧ J (k + 1) ρ' S') {ρ : Env} {S : Store} (h : J 0 ρ S) :
    ∃ ρ' S', forGo t body (rngP lo n) ρ S = .nx ρ' S' ∧ J n ρ' S' := by
  obtain ⟨⟨ρ', S'⟩, e, j⟩ := forGo_rng (σ := Env × Store) (fun s => s.1) (fun s => s.2) (fun k s => J k s.1 s.2) (t := t) (body := body) (lo := lo) (n := n) (fun k s hk hj => by
    obtain ⟨ρ', S', e, j⟩ := step k s.1 s.2 hk hj
    exact ⟨(ρ', S'), e, j⟩) (s := (ρ, S)) h
  exact ⟨ρ', S', e, j⟩
theorem forGo_lstJ (enc : α → P) (J : List α → Env → Store → Prop) {t : Tg} {body : FS} (step : ∀ a r ρ S, J (a :: r) ρ S → ∃ ρ' S', (bindR (bindT t (enc a) ρ) S).seq body = .nx ρ' S' ∧ J r ρ' S') {xs : List α} {ρ : Env} {S : Store} (h : J xs ρ S) :
    ∃ ρ' S', forGo t body (xs.map enc) ρ S = .nx ρ' S' ∧ J [] ρ' S' := by
  obtain ⟨⟨ρ', S'⟩, e, j⟩ := forGo_inv (σ := Env × Store) (fun s => s.1) (fun s => s.2) enc (fun r s => J r s.1 s.2) (t := t) (body := body) (fun a r s hj => by
    obtain ⟨ρ', S', e, j⟩ := step a r s.1 s.2 hj
    exact ⟨(ρ', S'), e, j⟩) xs (ρ, S) h
  exact ⟨ρ', S', e, j⟩
/-! what a statement's result must be -/
def R.goes (r : R) (J : Env → Store → Prop) : Prop := match r with
  | .nx ρ S => J ρ S
  | .ct ρ S => J ρ S
  | _ => False
@[simp] theorem goes_nx (ρ : Env) (S : Store) (J : Env → Store → Prop) : (R.nx ρ S).goes J = J ρ S := id rfl
@[simp] theorem goes_ct (ρ : Env) (S : Store) (J : Env → Store → Prop) : (R.ct ρ S).goes J = J ρ S := id rfl
@[simp] theorem goes_ite (c : Prop) [Decidable c] (a b : R) (J : Env → Store → Prop) : (if c then a else b).goes J = if c then a.goes J else b.goes J := by split <;> rfl
theorem goes_ex {r : R} {J : Env → Store → Prop} (h : r.goes J) : (∃ ρ S, r = .nx ρ S ∧ J ρ S) ∨ (∃ ρ S, r = .ct ρ S ∧ J ρ S) := by
  cases r with
  | nx ρ S => exact .inl ⟨ρ, S, rfl, h⟩
  | ct ρ S => exact .inr ⟨ρ, S, rfl, h⟩
  | _ => exact h.elim
theorem goes_seq {r : R} {g : FS} {J J' : Env → Store → Prop} (h : ∃ ρ S, r = .nx ρ S ∧ J ρ S) (hg : ∀ ρ S, J ρ S → (g ρ S).goes J') : (r.seq g).goes J' := by
  obtain ⟨ρ, S, rfl, j⟩ := h
  exact hg ρ S j
def lstC : Option Cell → Option (List W)
  | some (.lst ws) => some ws
  | some (.frz (.lst ps)) => some (ps.map .val)
  | _ => none
@[simp] theorem lstWs_lst (S : Store) (ps : List P) : lstWs S (.val (.lst ps)) = some (ps.map .val) := id rfl
@[simp] theorem lstWs_loc (S : Store) (n : Nat) : lstWs S (.loc n) = lstC S[n]? := by unfold lstWs lstC; rfl
@[simp] theorem lstC_lst (ws : List W) : lstC (some (.lst ws)) = some ws := id rfl
@[simp] theorem lstC_frz (ps : List P) : lstC (some (.frz (.lst ps))) = some (ps.map .val) := id rfl
@[simp] theorem extendW_ap (S : Store) (n : Nat) (w : W) : extendW (.loc n) [w] S = liveC S[n]? fun xs => optR (lstWs S w) fun ys => if xs.length + ys.length ≤ 100000 then .ok (.val .non) (S.set n (.lst (xs ++ ys))) else .bad := by
  unfold extendW liveL
  cases h : S[n]? with
  | none => simp [h, liveC]
  | some c =>
    cases c with
    | lst xs => cases h2 : lstWs S w <;> simp [h, liveC, h2]
    | dct _ xs => simp [h, liveC]
    | dcu _ xs => simp [h, liveC]
    | frz p => simp [h, liveC]
    | ins _ _ _ => simp [h, liveC]
/-- a loop over a list -/
theorem for_lst (enc : α → P) (J : List α → Env → Store → Prop) {t : Tg} {body : FS} (step : ∀ a r ρ S, J (a :: r) ρ S → ((bindR (bindT t (enc a) ρ) S).seq body).goes (J r)) :
    ∀ {xs : List α} {ρ : Env} {S : Store}, J xs ρ S → ∃ ρ' S', forGo t body (xs.map enc) ρ S = .nx ρ' S' ∧ J [] ρ' S'
  | [], ρ, S, h => ⟨ρ, S, rfl, h⟩
  | a :: r, ρ, S, h => by
    rw [List.map_cons, forGo_cons]
    rcases goes_ex (step a r ρ S h) with ⟨ρ', S', e, j⟩ | ⟨ρ', S', e, j⟩
    · rw [e, rd_nx]
      exact for_lst enc J step j
    · rw [e, rd_ct]
      exact for_lst enc J step j
theorem for_rng (J : Nat → Env → Store → Prop) {t : Tg} {body : FS} {lo : Int} {n : Nat} (step : ∀ (k : Nat) ρ S, k < n → J k ρ S → ((bindR (bindT t (.int (lo + (k : Int))) ρ) S).seq body).goes (J (k + 1))) {ρ : Env} {S : Store} (h : J 0 ρ S) :
    ∃ ρ' S', forGo t body (rngP lo n) ρ S = .nx ρ' S' ∧ J n ρ' S' := by
  have := for_lst (fun (k : Nat) => P.int (lo + (k : Int))) (fun r ρ S => ∃ k, k + r.length = n ∧ r = List.range' k r.length ∧ J k ρ S) (t := t) (body := body) (by
    rintro a r ρ S ⟨k, hk, he, hj⟩
    simp only [List.length_cons, List.range'_succ, List.cons.injEq] at he hk
    obtain ⟨rfl, he⟩ := he
    have q := step a ρ S (by omega) hj
    generalize (bindR (bindT t (.int (lo + (a : Int))) ρ) S).seq body = z at q
    cases z with
    | nx ρ S => exact ⟨a + 1, by omega, he, q⟩
    | ct ρ S => exact ⟨a + 1, by omega, he, q⟩
    | _ => exact q.elim) (xs := List.range n) (ρ := ρ) (S := S) ⟨0, by simp, by simp [List.range_eq_range'], h⟩
  obtain ⟨ρ', S', e, k, hk, _, hj⟩ := this
  simp only [List.length_nil, Nat.add_zero] at hk
  subst hk
  exact ⟨ρ', S', e, hj⟩
theorem mulOk_c {i j : Int} (h : -18446744073709551616 < j ∧ j < 18446744073709551616) : mulOk i j = true := mulOk_r (by omega)
theorem mulOk_d {i j : Int} (h : -18446744073709551616 < i ∧ i < 18446744073709551616) : mulOk i j = true := mulOk_l (by omega)
end Z
end
-- part Z13
section
set_option Elab.async false
set_option linter.all false
set_option maxRecDepth 100000
set_option autoImplicit false
namespace Z
open PySem PySem.Spec PyProof.Rows L2
/-! ### equality of data -/
/-- plain data of at most n levels of lists -/
def shP : Nat → P → Bool
  | _, .non => true
  | _, .bl _ => true
  | _, .int _ => true
  | _, .str x => PyData.strOk x
  | n + 1, .tup ps => ps.all (shP n)
  | n + 1, .lst ps => ps.all (shP n)
  | _, _ => false
@[simp] theorem shP_non (n : Nat) : shP n .non = true := by cases n <;> simp [shP]
@[simp] theorem shP_bl (n : Nat) (b : Bool) : shP n (.bl b) = true := by cases n <;> simp [shP]
@[simp] theorem shP_int (n : Nat) (b : Int) : shP n (.int b) = true := by cases n <;> simp [shP]
@[simp] theorem shP_str (n : Nat) (b : Str) : shP n (.str b) = PyData.strOk b := by cases n <;> simp [shP]
@[simp] theorem shP_tup (n : Nat) (ps : List P) : shP (n + 1) (.tup ps) = ps.all (shP n) := by simp [shP]
@[simp] theorem shP_lst (n : Nat) (ps : List P) : shP (n + 1) (.lst ps) = ps.all (shP n) := by simp [shP]
theorem sh_py : ∀ (n : Nat) (p : P), shP n p = true → ∃ d, toPy p = some d ∧ d.canLay0 = true ∧ d.depth ≤ n + 1 ∧ d.eqv d = true
  | n, .non, h => ⟨.none, by simp [toPy], rfl, by unfold PyData.depth; omega, rfl⟩
  | n, .bl b, h => ⟨.bool b, by simp [toPy], rfl, by unfold PyData.depth; omega, by simp [PyData.eqv]⟩
  | n, .int b, h => ⟨.int b, by simp [toPy], rfl, by unfold PyData.depth; omega, by simp [PyData.eqv]⟩
  | n, .str x, h => ⟨.str x, by simp [toPy], by simpa [PyData.canLay0] using h, by unfold PyData.depth; omega, by simp [PyData.eqv]⟩
  | 0, .tup ps, h => by simp [shP] at h
  | 0, .lst ps, h => by simp [shP] at h
  | n, .scr ps, h => by cases n <;> simp [shP] at h
  | n, .dct _ _, h => by cases n <;> simp [shP] at h
  | n, .dcu _ _, h => by cases n <;> simp [shP] at h
  | n, .obj _ _ _, h => by cases n <;> simp [shP] at h
  | n + 1, .tup ps, h => by
    rw [shP_tup] at h
    have key : ∀ qs : List P, qs.all (shP n) = true → ∃ ds, toPyL qs = some ds ∧ PyData.canLayAll0 ds = true ∧ PyData.depthAll ds ≤ n + 1 ∧ PyData.eqvAll ds ds = true := by
      intro qs
      induction qs with
      | nil => intro _; exact ⟨[], by simp [toPyL], rfl, by simp [PyData.depthAll], rfl⟩
      | cons q qs ih =>
        intro h
        rw [List.all_cons, Bool.and_eq_true] at h
        obtain ⟨d, a1, a2, a3, a4⟩ := sh_py n q h.1
        obtain ⟨ds, b1, b2, b3, b4⟩ := ih h.2
        exact ⟨d :: ds, by simp [toPyL, a1, b1], by simp [PyData.canLayAll0, a2, b2], by unfold PyData.depthAll; omega, by simp [PyData.eqvAll, a4, b4]⟩
    obtain ⟨ds, b1, b2, b3, b4⟩ := key ps h
    exact ⟨.tuple ds, by simp [toPy, b1], by simpa [PyData.canLay0] using b2, by unfold PyData.depth; omega, by simpa [PyData.eqv] using b4⟩
  | n + 1, .lst ps, h => by
    rw [shP_lst] at h
    have key : ∀ qs : List P, qs.all (shP n) = true → ∃ ds, toPyL qs = some ds ∧ PyData.canLayAll0 ds = true ∧ PyData.depthAll ds ≤ n + 1 ∧ PyData.eqvAll ds ds = true := by
      intro qs
      induction qs with
      | nil => intro _; exact ⟨[], by simp [toPyL], rfl, by simp [PyData.depthAll], rfl⟩
      | cons q qs ih =>
        intro h
        rw [List.all_cons, Bool.and_eq_true] at h
        obtain ⟨d, a1, a2, a3, a4⟩ := sh_py n q h.1
        obtain ⟨ds, b1, b2, b3, b4⟩ := ih h.2
        exact ⟨d :: ds, by simp [toPyL, a1, b1], by simp [PyData.canLayAll0, a2, b2], by unfold PyData.depthAll; omega, by simp [PyData.eqvAll, a4, b4]⟩
    obtain ⟨ds, b1, b2, b3, b4⟩ := key ps h
    exact ⟨.list ds, by simp [toPy, b1], by simpa [PyData.canLay0] using b2, by unfold PyData.depth; omega, by simpa [PyData.eqv] using b4⟩
theorem shaped_of {d : PyData} {n : Nat} (h1 : d.canLay0 = true) (h2 : d.depth ≤ n + 1) (hn : n ≤ 60) : SeqAt.shaped d = true := by
  unfold SeqAt.shaped
  rw [h1, Bool.true_and, decide_eq_true_eq]
  omega
theorem eqP_refl {p : P} (n : Nat) (h : shP n p = true) (hn : n ≤ 60 := by decide) : eqP p p = some true := by
  obtain ⟨d, h1, h2, h3, h4⟩ := sh_py n p h
  have hs := shaped_of h2 h3 hn
  unfold eqP
  cases p <;> simp [h1, hs, h4]
/-- two data of one kind: equal in Python iff equal -/
def pyEq (n : Nat) (p q : P) (k : Bool) : Prop := ∃ d e, toPy p = some d ∧ toPy q = some e ∧ d.canLay0 = true ∧ e.canLay0 = true ∧ d.depth ≤ n + 1 ∧ e.depth ≤ n + 1 ∧ d.eqv e = k
theorem eqP_of {p q : P} {n : Nat} {k : Bool} (h : pyEq n p q k) (hn : n ≤ 60 := by decide) : (∃ ps, p = .lst ps ∨ p = .tup ps) → eqP p q = some k := by
  obtain ⟨d, e, h1, h2, h3, h4, h5, h6, h7⟩ := h
  have s1 := shaped_of h3 h5 hn
  have s2 := shaped_of h4 h6 hn
  rintro ⟨ps, rfl | rfl⟩ <;> cases q <;> simp [eqP, h1, h2, s1, s2, h7]
/-! ### in -/
@[simp] theorem flatP_non : flatP .non = true := id rfl
@[simp] theorem flatP_bl (b : Bool) : flatP (.bl b) = true := id rfl
@[simp] theorem flatP_int (b : Int) : flatP (.int b) = true := id rfl
@[simp] theorem flatP_str (b : Str) : flatP (.str b) = true := id rfl
@[simp] theorem eqF_str (a b : Str) : eqF (.str a) (.str b) = (a == b) := id rfl
@[simp] theorem eqF_int (a b : Int) : eqF (.int a) (.int b) = (a == b) := id rfl
@[simp] theorem inP_lst (p : P) (ps : List P) : inP p (.lst ps) = if flatP p && ps.all flatP then some (ps.any fun q => eqF q p) else none := by cases p <;> rfl
@[simp] theorem inP_tup (p : P) (ps : List P) : inP p (.tup ps) = if flatP p && ps.all flatP then some (ps.any fun q => eqF q p) else none := by cases p <;> rfl
def inR (neg : Bool) (o : Option Bool) (S : Store) : RE W := match o with
  | some k => .ok (.val (.bl (if neg = true then !k else k))) S
  | none => .bad
@[simp] theorem inR_some (neg k : Bool) (S : Store) : inR neg (some k) S = .ok (.val (.bl (if neg = true then !k else k))) S := id rfl
@[simp] theorem inW_vv (neg : Bool) (p q : P) (S : Store) : inW neg (.val p) (.val q) S = inR neg (inP p q) S := by
  unfold inW inR
  rfl
@[simp] theorem tupleW_lst (ps : List P) (S : Store) : tupleW [.val (.lst ps)] S = .ok (.val (.tup ps)) S := by
  simp [tupleW, doFrzs, frzs_vals]
@[simp] theorem tupleW_tup (ps : List P) (S : Store) : tupleW [.val (.tup ps)] S = .ok (.val (.tup ps)) S := id rfl
/-! ### slices, min, max, downwards -/
@[simp] theorem eSl_ap (fa : FE W) (fl fh : FE (Option Int)) (ρ : Env) (S : Store) : eSl fa fl fh ρ S = (fa ρ S).bind fun w S1 => (fl ρ S1).bind fun lo S2 => (fh ρ S2).bind fun hi S3 => sliceW w lo hi S3 := id rfl
@[simp] theorem pNone_ap (ρ : Env) (S : Store) : pNone ρ S = .ok none S := id rfl
@[simp] theorem pSome_ap (f : FE W) (ρ : Env) (S : Store) : pSome f ρ S = (f ρ S).bind asI := id rfl
@[simp] theorem asI_int (i : Int) (S : Store) : asI (.val (.int i)) S = .ok (some i) S := id rfl
@[simp] theorem doFrzs_vals (ps : List P) (S : Store) : doFrzs (ps.map .val) S = .ok ps S := by simp [doFrzs, frzs_vals]
theorem cutA_map {α β : Type} (f : α → β) (xs : List α) (lo hi : Option Int) : cutA (xs.map f) lo hi = (cutA xs lo hi).map f := by simp [cutA, List.map_drop, List.map_take]
@[simp] theorem sliceW_lst (ps : List P) (lo hi : Option Int) (S : Store) : sliceW (.val (.lst ps)) lo hi S = .ok (.val (.lst (cutA ps lo hi))) S := by
  simp [sliceW, cutA_map]
@[simp] theorem revW_lst (ps : List P) (S : Store) : revW (.val (.lst ps)) S = .ok (.val (.lst ps.reverse)) S := by simp [revW]
theorem cut_dropLast {α : Type} (xs : List α) : cutA xs none (some (-1)) = xs.dropLast := by
  unfold cutA
  rw [HT.sIx_none]
  have : HT.sIx xs.length xs.length (some (-1)) = xs.length - 1 := by
    simp only [HT.sIx]
    rw [if_pos (by omega)]
    omega
  rw [this, List.dropLast_eq_take]
  simp
theorem cut_range {α : Type} (xs : List α) (i j : Int) (h0 : 0 ≤ i) (h1 : i ≤ j) (h2 : j ≤ xs.length) : cutA xs (some i) (some j) = (xs.drop i.toNat).take (j.toNat - i.toNat) := by
  have e1 : HT.sIx xs.length 0 (some i) = i.toNat := by simp only [HT.sIx]; rw [if_neg (by omega)]; omega
  have e2 : HT.sIx xs.length xs.length (some j) = j.toNat := by simp only [HT.sIx]; rw [if_neg (by omega)]; omega
  unfold cutA
  rw [e1, e2]
@[simp] theorem minW_lst (ps : List P) (S : Store) : minW [.val (.lst ps)] S = orBad (((intsOf ps).bind minI).map fun m => .val (.int m)) S := id rfl
@[simp] theorem maxW_lst (ps : List P) (S : Store) : maxW [.val (.lst ps)] S = orBad (((intsOf ps).bind maxI).map fun m => .val (.int m)) S := id rfl
def rngRD (ws : List W) (S1 : Store) : RE (List P) := match ws with
  | [.val (.int i), .val (.int j), .val (.int (-1))] => if rngOk i j = true then .ok (rngD i (i - j).toNat) S1 else .bad
  | _ => .bad
@[simp] theorem iRangeD_ap (fa : FE (List W)) (ρ : Env) (S : Store) : iRangeD fa ρ S = (fa ρ S).bind rngRD := id rfl
@[simp] theorem rngRD_int (i j : Int) (S : Store) : rngRD [.val (.int i), .val (.int j), .val (.int (-1))] S = if rngOk i j = true then .ok (rngD i (i - j).toNat) S else .bad := id rfl
@[simp] theorem bitsW_int (i : Int) (S : Store) : bitsW (.val (.int i)) S = .ok (.val (.int (Builtin.Int.intBits i : Nat))) S := id rfl
@[simp] theorem eAG_ap (sb : Bool) (fi : FI) (vs : List Nat) (t : Tg) (e : FE W) (ρ : Env) (S : Store) : eAG sb fi vs t e ρ S = (fi ρ S).bind fun ps S1 => (agGo sb t e (wipeE ρ vs) ps S1).bind fun k S2 => .ok (.val (.bl k)) S2 := id rfl
/-- all(..): every test true, or the first false one -/
theorem agGo_all {α : Type} {t : Tg} {e : FE W} {ρ : Env} {S : Store} (enc : α → P) (g : α → Bool) {xs : List α} (h : ∀ a ∈ xs, ∃ ρ1, bindT t (enc a) ρ = some ρ1 ∧ e ρ1 S = .ok (.val (.bl (g a))) S) :
    agGo false t e ρ (xs.map enc) S = .ok (xs.all g) S := by
  induction xs with
  | nil => rfl
  | cons a r ih =>
    obtain ⟨ρ1, h1, h2⟩ := h a List.mem_cons_self
    rw [List.map_cons, agGo, h1]
    simp only [h2, noEx, rb_ok, asB_bl, ih fun a h' => h a (List.mem_cons_of_mem _ h'), List.all_cons]
    cases g a <;> simp
theorem agGo_any {α : Type} {t : Tg} {e : FE W} {ρ : Env} {S : Store} (enc : α → P) (g : α → Bool) {xs : List α} (h : ∀ a ∈ xs, ∃ ρ1, bindT t (enc a) ρ = some ρ1 ∧ e ρ1 S = .ok (.val (.bl (g a))) S) :
    agGo true t e ρ (xs.map enc) S = .ok (xs.any g) S := by
  induction xs with
  | nil => rfl
  | cons a r ih =>
    obtain ⟨ρ1, h1, h2⟩ := h a List.mem_cons_self
    rw [List.map_cons, agGo, h1]
    simp only [h2, noEx, rb_ok, asB_bl, ih fun a h' => h a (List.mem_cons_of_mem _ h'), List.any_cons]
    cases g a <;> simp
theorem for_idx (f : Nat → P) (J : Nat → Env → Store → Prop) {t : Tg} {body : FS} {n : Nat} (step : ∀ (k : Nat) ρ S, k < n → J k ρ S → ((bindR (bindT t (f k) ρ) S).seq body).goes (J (k + 1))) {ρ : Env} {S : Store} (h : J 0 ρ S) :
    ∃ ρ' S', forGo t body ((List.range n).map f) ρ S = .nx ρ' S' ∧ J n ρ' S' := by
  have := for_lst f (fun r ρ S => ∃ k, k + r.length = n ∧ r = List.range' k r.length ∧ J k ρ S) (t := t) (body := body) (by
    rintro a r ρ S ⟨k, hk, he, hj⟩
    simp only [List.length_cons, List.range'_succ, List.cons.injEq] at he hk
    obtain ⟨rfl, he⟩ := he
    have q := step a ρ S (by omega) hj
    generalize (bindR (bindT t (f a) ρ) S).seq body = z at q
    cases z with
    | nx ρ S => exact ⟨a + 1, by omega, he, q⟩
    | ct ρ S => exact ⟨a + 1, by omega, he, q⟩
    | _ => exact q.elim) (xs := List.range n) (ρ := ρ) (S := S) ⟨0, by simp, by simp [List.range_eq_range'], h⟩
  obtain ⟨ρ', S', e, k, hk, _, hj⟩ := this
  simp only [List.length_nil, Nat.add_zero] at hk
  subst hk
  exact ⟨ρ', S', e, hj⟩
end Z
end
-- part ZJ
section
set_option Elab.async false
set_option linter.all false
set_option maxRecDepth 100000
set_option autoImplicit false
/-! # calls that may change what they are given -/
namespace Z
open PySem PySem.Spec PyProof.Rows L2
/-- the promise of a def that works on the caller's store -/
def spS (K : PySem.W.Frag) (CT : CTb) (n : Nat) (g : List W → Store → RE W) : Sp := fun vs H Q E => ∃ s S ws, Gd K CT s S H ∧ ws.length = n ∧ RepWs K CT s ws vs ∧ RG K CT (RepW K CT) s (g ws S) Q (fun c d H' => E c d H')
def envW (ws : List W) (m : Nat) : Env := (ws.map some) ++ List.replicate (m - ws.length) none
def runS (m : Nat) (body : FS) (ws : List W) (S : Store) : RE W := match body (envW ws m) S with
  | .rt w S' => .ok w S'
  | .nx _ S' => .ok (.val .non) S'
  | .ex x _ S' => .ex x S'
  | _ => .bad
section
variable {K : PySem.W.Frag} {CT : CTb}
theorem envW_ok {s : Fs} {ws : List W} {vs : List V} {N : List Str} (r : RepWs K CT s ws vs) : EnvOk K CT s (envW ws N.length) (start N vs) := by
  refine ⟨by simp [envW, L2.start, r.length], fun i w e => ?_⟩
  unfold envW at e
  unfold L2.start
  by_cases hi : i < ws.length
  · rw [List.getElem?_append_left (by simpa using hi), List.getElem?_map] at e
    cases ed : ws[i]? with
    | none => rw [ed] at e; cases e
    | some p =>
      rw [ed] at e
      cases e
      obtain ⟨v, ev, rv⟩ := r.get' ed
      exact ⟨v, by rw [List.getElem?_append_left (by simpa [r.length] using hi), List.getElem?_map, ev]; rfl, rv⟩
  · rw [List.getElem?_append_right (by simpa using Nat.le_of_not_lt hi), List.getElem?_replicate] at e
    split at e <;> cases e
theorem live_end {s : Fs} {S : Store} {ws : List W} {vs : List V} {H : Hp} {N : List Str} {body : FS} {Q : VK} {E : XK} (g : Gd K CT s S H) (r : RepWs K CT s ws vs) (h : RG K CT (RepW K CT) s (runS N.length body ws S) Q (fun c d H' => E c d H')) :
    canS K CT (fun c d _ H => E c d H) body { nx := fun _ H' => Q .non H', rt := Q } (start N vs) H := by
  refine ⟨s, S, envW ws N.length, g, envW_ok r, ?_⟩
  unfold runS at h
  cases er : body (envW ws N.length) S with
  | nx ρ' S' => rw [er] at h; exact fun s' H' σ' x g en => h s' H' _ x g rfl
  | rt w S' => rw [er] at h; exact h
  | ex x ρ' S' => rw [er] at h; exact fun s' H' σ' c dd x g en q => h s' H' c dd x g q
  | bk ρ' S' => rw [er] at h; exact h.elim
  | ct ρ' S' => rw [er] at h; exact h.elim
  | bad => rw [er] at h; exact h.elim
/-- THE RULE for a def that works on the caller's store -/
theorem fn_live {P' : Program} {w : World} {mg : Str → Option Value} {base : Heap} {x qual : Str} {st : Stmt} {f : Addr} {fd : FuncData} {N ps : List Str} {k : Nat} {body : FS} {dvs : List V} {kws : List (Str × V)} (F : FunD K x qual (defArgs st) (defBody st) (defScope st) dvs kws f fd) (S : FnScope N ps (defScope st))
    (hb : DefOk P' w K mg base CT N qual st f k body) : FnOk P' w K mg base (L2.CX P' w) (k + 1) f fd ps (spS K CT ps.length (runS N.length body)) := by
  refine F.ok S (fun vs H Q E ⟨_, _, ws, _, hl, r, _⟩ => by rw [r.length, hl]) fun cdv A outer s H vs Q E hr hsp => ⟨_, hb cdv A s H E outer hr (takes_of rfl rfl rfl rfl) (passes_of rfl), ?_⟩
  obtain ⟨s0, S0, ws, g, hl, r, h⟩ := hsp
  exact live_end g r h
theorem fn_liveC {P' : Program} {w : World} {mg : Str → Option Value} {base : Heap} {x qual : Str} {st : Stmt} {p : He.Defn} {fd : FuncData} {N ps : List Str} {k : Nat} {body : FS} {dvs : List V} {kws : List (Str × V)} (F : FunD K x qual (defArgs st) (defBody st) (defScope st) dvs kws (He.fAd K p) fd) (S : FnScope N ps (defScope st))
    (hb : DefOkC P' w K mg base CT N qual st p k body) : FnOk P' w K mg base (L2.CX P' w) (k + 1) (He.fAd K p) fd ps (spS K CT ps.length (runS N.length body)) := by
  refine funD_okC F S (fun vs H Q E ⟨_, _, ws, _, hl, r, _⟩ => by rw [r.length, hl]) fun cdv A outer s H vs Q E hcd hr hsp => ⟨_, hb cdv A s H E outer hcd hr (takes_of rfl rfl rfl rfl) (passes_of rfl), ?_⟩
  obtain ⟨s0, S0, ws, g, hl, r, h⟩ := hsp
  exact live_end g r h
theorem fn_badS {P' : Program} {w : World} {mg : Str → Option Value} {base : Heap} {x qual : Str} {st : Stmt} {f : Addr} {fd : FuncData} {N ps : List Str} {k n : Nat} {dvs : List V} {kws : List (Str × V)} (F : FunD K x qual (defArgs st) (defBody st) (defScope st) dvs kws f fd) (S : FnScope N ps (defScope st)) :
    FnOk P' w K mg base (L2.CX P' w) (k + 1) f fd ps (spS K CT n (fun _ _ => .bad)) :=
  F.ok S (fun vs H Q E ⟨_, _, _, _, _, _, h⟩ => h.elim) fun cdv A outer s H vs Q E hr ⟨_, _, _, _, _, _, h⟩ => h.elim
end
/-! ### calls -/
def eCallS (n : Nat) (g : List W → Store → RE W) (fa : FE (List W)) : FE W := fun ρ S => (fa ρ S).bind fun ws S1 => if ws.length = n then g ws S1 else .bad
/-- an instance of c without an attribute m -/
def isObjW (c m : Str) (S : Store) : W → Bool
  | .val (.obj c' ns _) => decide (c' = c) && !ns.contains m
  | .loc k => match S[k]? with
    | some (.ins c' ns _) => decide (c' = c) && !ns.contains m
    | some (.frz (.obj c' ns _)) => decide (c' = c) && !ns.contains m
    | _ => false
  | _ => false
def eMethS (c m : Str) (n : Nat) (g : List W → Store → RE W) (fo : FE W) (fa : FE (List W)) : FE W := fun ρ S => (fo ρ S).bind fun w S1 => if isObjW c m S1 w = true then (fa ρ S1).bind fun ws S2 => if ws.length + 1 = n then g (w :: ws) S2 else .bad else .bad
/-- the end of an __init__: nothing is returned -/
def newEnd (k : Nat) : W → Store → RE W
  | .val .non, S => .ok (.loc k) S
  | _, _ => .bad
/-- a new live instance -/
def eNewS (c : Str) (n : Nat) (g : List W → Store → RE W) (fa : FE (List W)) : FE W := fun ρ S => (fa ρ S).bind fun ws S1 => if ws.length + 1 = n then (g (.loc S1.length :: ws) (S1 ++ [.ins c [] []])).bind (newEnd S1.length) else .bad
def CallFS (P' : Program) (w : World) (K : PySem.W.Frag) (mg : Str → Option Value) (base : Heap) (CT : CTb) (x : Str) (n k : Nat) (g : List W → Store → RE W) : Prop :=
  ∃ f fd ps, FnOk P' w K mg base (L2.CX P' w) k f fd ps (spS K CT n g) ∧ mg x = some (.ref f) ∧ PySem.W.keepIn K (.ref f) = true ∧ Binds K fd ps []
def MethFS (P' : Program) (w : World) (K : PySem.W.Frag) (mg : Str → Option Value) (base : Heap) (CT : CTb) (c m : Str) (n k : Nat) (g : List W → Store → RE W) : Prop :=
  ∃ f fd ps, FnOk P' w K mg base (L2.CX P' w) k f fd ps (spS K CT n g) ∧ Meth K (CT c) m f ∧ Binds K fd ps [] ∧ Cls K (CT c)
def NewFS (P' : Program) (w : World) (K : PySem.W.Frag) (mg : Str → Option Value) (base : Heap) (CT : CTb) (c : Str) (n k : Nat) (g : List W → Store → RE W) : Prop :=
  ∃ f fd ps, FnOk P' w K mg base (L2.CX P' w) k f fd ps (spS K CT n g) ∧ Mk K (CT c) f ∧ mg c = some (.ref (CT c)) ∧ Binds K fd ps []
section
variable {X : Cx} {CT : CTb} {U : WX} {e o : Expr} {es : List Expr} {fo : FE W} {ga : FE (List W)} {pos p apos : Pos} {x m c : Str} {k j n : Nat} {g : List W → Store → RE W}
theorem pz_callFS (C : CallFS X.prog X.w X.K X.mg X.base CT x n k g) (hr : Room j X.A) (hjk : k ≤ j) (hg : Gl X x) (tk : Takes X U)
    (ha : PZA X CT U (e :: es) ga) (hdb : (x == ("__debug__" : Str)) = false := by decide) (he : starEach (e :: es) X.env = (false, eval e X.env) :: starEach es X.env := by rfl) (hpl : (backTo pos (starEach es X.env)).any (·.1) = false := by rfl) :
    PZ X CT U (.Call (.Name x p) (e :: es) [] pos) (eCallS n g ga) := by
  obtain ⟨f, fd, ps, F, h1, h2, h3⟩ := C
  exact weakE (pe_callS F (hr.mono hjk) hg h1 h2 h3 (fun σ => passAt tk σ) ha hdb he hpl) fun σ H Q ⟨s, S, ρ, gd, en, h⟩ =>
    ⟨s, S, ρ, gd, en, RG.step h fun ws S1 s1 H1 vs x1 g1 r1 h1 => by
      split at h1
      · rename_i hl
        exact ⟨s1, S1, ws, g1, hl, r1, h1⟩
      · exact h1.elim⟩
theorem objW_ok {K : PySem.W.Frag} {s : Fs} {S : Store} {H : Hp} {w : W} {v : V} (gd : Gd K CT s S H) (r : RepW K CT s w v) (h : isObjW c m S w = true) : ∃ a dx fs, v = .ref a ∧ H a = some (.ins (CT c) dx fs) ∧ fs.lookup m = none := by
  cases w with
  | exc => cases h
  | val q =>
    cases q with
    | obj c' ns qs =>
      have h : (decide (c' = c) && !ns.contains m) = true := h
      rw [Bool.and_eq_true, decide_eq_true_eq, Bool.not_eq_true'] at h
      obtain ⟨rfl, hn⟩ := h
      obtain ⟨a, dx, vs, rfl, q1, ql, q2⟩ := r
      exact ⟨a, dx, _, rfl, gd.exF _ _ q1, look_none hn⟩
    | _ => cases h
  | loc k =>
    obtain ⟨a, h1, rfl⟩ := r
    unfold isObjW at h
    cases hc : S[k]? with
    | none => simp [hc] at h
    | some cell =>
      have q := gd.cells k _ a hc h1
      cases cell with
      | ins c' ns ws =>
        simp only [hc] at h
        rw [Bool.and_eq_true, decide_eq_true_eq, Bool.not_eq_true'] at h
        obtain ⟨rfl, hn⟩ := h
        obtain ⟨_, _, dx, vs, q3, _, _⟩ := q
        exact ⟨a, dx, _, rfl, q3, look_none hn⟩
      | frz p' =>
        cases p' with
        | obj c' ns qs =>
          simp only [hc] at h
          rw [Bool.and_eq_true, decide_eq_true_eq, Bool.not_eq_true'] at h
          obtain ⟨rfl, hn⟩ := h
          obtain ⟨b, dx, vs, hb, q1, ql, q2⟩ := q
          cases hb
          exact ⟨_, dx, _, rfl, gd.exF _ _ q1, look_none hn⟩
        | _ => simp [hc] at h
      | _ => simp [hc] at h
theorem methS_can {sp : Sp} (hsp : sp = spS X.K CT n g) {σ : L2.St} {H : Hp} {Q : VK} (h : canE X.K CT U (eMethS c m n g fo ga) σ H Q) : tMethS (CT c) m sp (WE U) (canE X.K CT U fo) (canA X.K CT U ga) σ H Q := by
  subst hsp
  obtain ⟨s, S, ρ, gd, en, h⟩ := h
  refine ⟨s, S, ρ, gd, en, RG.step h fun w S1 s1 H1 v x1 g1 r1 h1 => ?_⟩
  split at h1
  · rename_i hc
    obtain ⟨a, dx, fs, rfl, q1, q2⟩ := objW_ok g1 r1 hc
    refine ⟨a, dx, fs, rfl, q1, q2, s1, S1, ρ, g1, en.mono x1, RG.step h1 fun ws S2 s2 H2 us x2 g2 r2 h2 => ?_⟩
    split at h2
    · rename_i hl
      exact ⟨s2, S2, w :: ws, g2, by simpa using hl, ⟨_, _, rfl, r1.mono x2, r2⟩, h2⟩
    · exact h2.elim
  · exact h1.elim
theorem pz_methFS {pl : Sem Bool} (C : MethFS X.prog X.w X.K X.mg X.base CT c m n k g) (hr : Room j X.A) (hjk : k ≤ j) (tk : Takes X U) (ho : PZ X CT U o fo) (ha : PZA X CT U (e :: es) ga)
    (hst : starEach (e :: es) X.env = (false, eval e X.env) :: starEach es X.env := by rfl) (hpl : (backTo pos (starEach es X.env)).any (·.1) = false := by rfl)
    (ht : eval (.Call (.Attribute o m apos) (e :: es) [] pos) X.env = (do
      let ov ← eval o X.env
      standAt apos.atName
      let (f, first) ← holding [ov] (getMethod ov m pl)
      callWith pos f first (backTo pos (starEach (e :: es) X.env)) (backToKw pos (keywordEach [] X.env))) := by rfl) : PZ X CT U (.Call (.Attribute o m apos) (e :: es) [] pos) (eMethS c m n g fo ga) := by
  obtain ⟨f, fd, ps, F, h1, h2, h3⟩ := C
  exact weakE (pe_methS (pl := pl) ho h3 h1 F (hr.mono hjk) h2 (fun σ => passAt tk σ) ha hst hpl ht) fun σ H Q h => methS_can rfl h
theorem pz_methFS0 {pl : Sem Bool} (C : MethFS X.prog X.w X.K X.mg X.base CT c m n k g) (hr : Room j X.A) (hjk : k ≤ j) (tk : Takes X U) (ho : PZ X CT U o fo)
    (ht : eval (.Call (.Attribute o m apos) [] [] pos) X.env = (do
      let ov ← eval o X.env
      standAt apos.atName
      let (f, first) ← holding [ov] (getMethod ov m pl)
      callWith pos f first (backTo pos (starEach [] X.env)) (backToKw pos (keywordEach [] X.env))) := by rfl) : PZ X CT U (.Call (.Attribute o m apos) [] [] pos) (eMethS c m n g fo aNil) := by
  obtain ⟨f, fd, ps, F, h1, h2, h3⟩ := C
  refine weakE (pe_methS0 (pl := pl) ho h3 h1 F (hr.mono hjk) h2 (fun σ => passAt tk σ) ht) fun σ H Q ⟨s, S, ρ, gd, en, h⟩ => ?_
  refine ⟨s, S, ρ, gd, en, RG.step h fun w S1 s1 H1 v x1 g1 r1 h1 => ?_⟩
  split at h1
  · rename_i hc
    obtain ⟨a, dx, fs, rfl, q1, q2⟩ := objW_ok g1 r1 hc
    refine ⟨a, dx, fs, rfl, q1, q2, ?_⟩
    simp only [aNil, RE.bind] at h1
    split at h1
    · rename_i hl
      exact ⟨s1, S1, [w], g1, by simpa using hl, ⟨_, _, rfl, r1, rfl⟩, h1⟩
    · exact h1.elim
  · exact h1.elim
theorem newS_sp {s1 : Fs} {S1 : Store} {H1 : Hp} {ws : List W} {vs : List V} {Q : VK} {E : XK} (g1 : Gd X.K CT s1 S1 H1) (r1 : RepWs X.K CT s1 ws vs) (hl : ws.length + 1 = n)
    (h1 : RG X.K CT (RepW X.K CT) s1 ((g (.loc S1.length :: ws) (S1 ++ [.ins c [] []])).bind (newEnd S1.length)) Q E) {a dx : Addr} (ha : H1 a = none) (hdx : H1 dx = none) (hne : dx ≠ a) :
    spS X.K CT n g (.ref a :: vs) (upd (upd H1 dx (.own a)) a (.ins (CT c) dx [])) (fun v H2 => v = .non ∧ Q (.ref a) H2) E := by
  have eH : Ex H1 (upd (upd H1 dx (.own a)) a (.ins (CT c) dx [])) := fun b o e => by rw [upd_ne (ne_of_none e ha), upd_ne (ne_of_none e hdx)]; exact e
  obtain ⟨g2, x2, em⟩ := g1.newC ha (o := .ins (CT c) dx []) (c := .ins c [] []) (upd (upd H1 dx (.own a)) a (.ins (CT c) dx [])) eH upd_same (fun s' x hF hG => ⟨hF, hG, dx, [], upd_same, rfl, rfl⟩)
  refine ⟨_, S1 ++ [.ins c [] []], .loc S1.length :: ws, g2, by simpa using hl, ⟨_, _, rfl, ⟨a, em, rfl⟩, r1.mono x2⟩, ?_⟩
  have h1 := RG.ext x2 h1
  cases er : g (.loc S1.length :: ws) (S1 ++ [.ins c [] []]) with
  | ok w S2 =>
    rw [er] at h1
    intro s3 H3 v x3 g3 rv
    have h1 : RG X.K CT (RepW X.K CT) _ (newEnd S1.length w S2) Q E := h1
    unfold newEnd at h1
    split at h1
    · exact ⟨rv, h1 s3 H3 (.ref a) x3 g3 ⟨a, x3.m _ _ em, rfl⟩⟩
    · exact h1.elim
  | ex x S2 => rw [er] at h1; exact h1
  | bad => rw [er] at h1; exact h1.elim
theorem pz_newFS (C : NewFS X.prog X.w X.K X.mg X.base CT x n k g) (hr : Room j X.A) (hjk : k + 1 ≤ j) (hg : Gl X x) (tk : Takes X U)
    (ha : PZA X CT U (e :: es) ga) (hdb : (x == ("__debug__" : Str)) = false := by decide) (he : starEach (e :: es) X.env = (false, eval e X.env) :: starEach es X.env := by rfl) (hpl : (backTo pos (starEach es X.env)).any (·.1) = false := by rfl) :
    PZ X CT U (.Call (.Name x p) (e :: es) [] pos) (eNewS x n g ga) := by
  obtain ⟨f, fd, ps, F, M, h2, h3⟩ := C
  exact weakE (pe_makeS M F (hr.mono hjk) hg h2 h3 (fun σ => passAt tk σ) ha hdb he hpl) fun σ H Q ⟨s, S, ρ, gd, en, h⟩ =>
    ⟨s, S, ρ, gd, en, RG.step h fun ws S1 s1 H1 vs x1 g1 r1 h1 => by
      split at h1
      · rename_i hl
        intro a dx ha hdx hne
        exact newS_sp g1 r1 hl h1 ha hdx hne
      · exact h1.elim⟩
theorem pe_makeS0 {C : Addr} {CX : CXT} {sp : Sp} {E : L2.St → XK} {f : Addr} {fd : FuncData} {ps : List Str} (M : Mk X.K C f) (F : FnOk X.prog X.w X.K X.mg X.base CX k f fd ps sp) (hr : Room (k + 1) X.A) (hg : Gl X x) (hm : X.mg x = some (.ref C)) (hb : Binds X.K fd ps []) (hx : ∀ σ, PassesAt CX X σ (E σ))
    (hdb : (x == ("__debug__" : Str)) = false := by decide) : PE X (.Call (.Name x p) [] [] pos) (tMakeS C sp E (fun σ H Q => Q [] H)) := by
  refine ⟨fun pins s σ H Q I h => ?_⟩
  refine wpAny_Call_Name_kw (ld_glob I hg hm ?_ hdb)
  exact PySem.W.callWith_K0 I.kIn M.kp (run_makeS (us := []) M F hr hb hx I .nil h)
theorem pz_newFS0 (C : NewFS X.prog X.w X.K X.mg X.base CT x n k g) (hr : Room j X.A) (hjk : k + 1 ≤ j) (hg : Gl X x) (tk : Takes X U) (hdb : (x == ("__debug__" : Str)) = false := by decide) : PZ X CT U (.Call (.Name x p) [] [] pos) (eNewS x n g aNil) := by
  obtain ⟨f, fd, ps, F, M, h2, h3⟩ := C
  refine weakE (pe_makeS0 M F (hr.mono hjk) hg h2 h3 (fun σ => passAt tk σ) hdb) fun σ H Q ⟨s, S, ρ, gd, en, h⟩ => ?_
  have h : RG X.K CT (RepW X.K CT) s (if ([] : List W).length + 1 = n then (g [.loc S.length] (S ++ [.ins x [] []])).bind (newEnd S.length) else .bad) Q _ := h
  split at h
  · rename_i hl
    intro a dx ha hdx hne
    exact newS_sp gd (ws := []) rfl hl h ha hdx hne
  · exact h.elim
end
end Z
end
-- part ZK
section
set_option Elab.async false
set_option linter.all false
set_option maxRecDepth 100000
set_option autoImplicit false
/-! # texts -/
namespace Z
open PySem PySem.Spec PyProof.Rows L2
section
variable {X : Cx} {CT : CTb} {U : WX} {a b e o : Expr} {es : List Expr} {fa fb fe fo : FE W} {pos p : Pos}
/-! ### f".." -/
def fmtW : W → Store → RE W
  | .val (.str y), S => if y.length ≤ 1000000 then .ok (.val (.str y)) S else .bad
  | .val (.int i), S => if i.natAbs < 2 ^ 64 then .ok (.val (.str (toString i : String))) S else .bad
  | _, _ => .bad
theorem log2_1920 {j : Int} (h : j.natAbs < 2 ^ 64) : j.natAbs.log2 < 1920 := Nat.lt_of_lt_of_le (PySem.Flt.log2_lt_of (by decide : 0 < 64) h) (by decide)
theorem pz_fmt (he : PZ X CT U e fe) : PZ X CT U (.FormattedValue e (-1) none pos) (eUn fmtW fe) := weakE (pe_fmt he) fun σ H Q ⟨s, S, ρ, gd, en, h⟩ =>
  ⟨s, S, ρ, gd, en, RG.step h fun w S1 s1 H1 v x1 g1 r1 h1 => by
    unfold fmtW at h1
    split at h1
    · rename_i y
      split at h1
      · rename_i c; exact .inl ⟨y, r1, sz6 c, RG.here h1 g1 rfl⟩
      · exact h1.elim
    · rename_i i
      split at h1
      · rename_i c; exact .inr ⟨i, r1, log2_1920 c, RG.here h1 g1 rfl⟩
      · exact h1.elim
    · exact h1.elim⟩
def jsStep (acc : Str) (k : Str → Store → RE W) : W → Store → RE W
  | .val (.str y), S => if acc.length + y.length ≤ 1000000 then k (acc ++ y) S else .bad
  | _, _ => .bad
def jsGo (ρ : Env) : List (FE W) → Str → Store → RE W
  | [], acc, S => .ok (.val (.str acc)) S
  | f :: fs, acc, S => (f ρ S).bind (jsStep acc (jsGo ρ fs))
def eJs (fs : List (FE W)) : FE W := fun ρ S => jsGo ρ fs Str.empty S
inductive PZJ (X : Cx) (CT : CTb) (U : WX) : List Expr → List (FE W) → Prop where
  | nil : PZJ X CT U [] []
  | cons {e : Expr} {f : FE W} {es : List Expr} {fs : List (FE W)} (h : PZ X CT U e f) (r : PZJ X CT U es fs) : PZJ X CT U (e :: es) (f :: fs)
theorem str_app_len (x y : Str) : (x ++ y).length = x.length + y.length := by
  show (Str.append x y).length = _
  simp [Str.append, Str.length]
theorem js_can {fs : List (FE W)} : ∀ {acc : Str} {s : Fs} {S : Store} {ρ : Env} {σ : L2.St} {H : Hp} {Q : VK}, Gd X.K CT s S H → EnvOk X.K CT s ρ σ → RG X.K CT (RepW X.K CT) s (jsGo ρ fs acc S) Q (fun c d H' => U c d σ H') →
    tJs (fs.map fun f => canE X.K CT U f) acc σ H (fun out H1 => Q (.str out) H1) := by
  induction fs with
  | nil => intro acc s S ρ σ H Q gd en h; exact RG.here h gd rfl
  | cons f fs ih =>
    intro acc s S ρ σ H Q gd en h
    refine ⟨s, S, ρ, gd, en, RG.step h fun w S1 s1 H1 v x1 g1 r1 h1 => ?_⟩
    unfold jsStep at h1
    split at h1
    · rename_i y
      split at h1
      · rename_i c
        exact ⟨y, r1, by rw [str_app_len]; exact sz6 c, ih g1 (en.mono x1) h1⟩
      · exact h1.elim
    · exact h1.elim
theorem pj_of {fs : List (FE W)} (h : PZJ X CT U es fs) : PJ X es (fs.map fun f => canE X.K CT U f) := by
  induction h with
  | nil => exact .nil
  | cons h r ih => exact .cons h ih
theorem pz_joined {v1 v2 : Expr} {rest : List Expr} {fs : List (FE W)} (h : PZJ X CT U (v1 :: v2 :: rest) fs) : PZ X CT U (.JoinedStr (v1 :: v2 :: rest) pos) (eJs fs) :=
  weakE (pe_joined (pj_of h)) fun σ H Q ⟨s, S, ρ, gd, en, h⟩ => js_can gd en h
theorem pz_joined1 (h : PZ X CT U e fe) : PZ X CT U (.JoinedStr [e] pos) fe := pe_joined1 h
/-! ### str(x), int(text) -/
def strW : List W → Store → RE W
  | [.val (.int i)], S => if i.natAbs < 2 ^ 64 then .ok (.val (.str (toString i : String))) S else .bad
  | [.val (.str x)], S => .ok (.val (.str x)) S
  | _, _ => .bad
theorem cz_str {K : PySem.W.Frag} : CallZ K CT (fun xs H Q => (∃ i, xs = [.int i] ∧ i.natAbs.log2 < 1920 ∧ Q (.str (toString i)) H) ∨ ∃ a, xs = [.str a] ∧ Q (.str a) H) strW := fun s S H ws vs Q EX gd r h => by
  unfold strW at h
  split at h
  · rename_i i
    obtain ⟨v, rfl, rv⟩ := rep1 r
    split at h
    · rename_i c; exact .inl ⟨i, by rw [show v = _ from rv], log2_1920 c, RG.here h gd rfl⟩
    · exact h.elim
  · rename_i x
    obtain ⟨v, rfl, rv⟩ := rep1 r
    exact .inr ⟨x, by rw [show v = _ from rv], RG.here h gd rfl⟩
  · exact h.elim
theorem CallR.or {f : Value} {r r' : List V → Hp → VK → Prop} (h : CallR X f r) (h' : CallR X f r') : CallR X f (fun xs H Q => r xs H Q ∨ r' xs H Q) := by
  intro pins s σ H xs us Q I rr q
  rcases q with q | q
  · exact h pins s σ H xs us Q I rr q
  · exact h' pins s σ H xs us Q I rr q
variable {ga : FE (List W)}
theorem pz_str1 (hg : Gl X "str") (hm : X.mg "str" = none) (ha : PZA X CT U [a] ga) (he : starEach [a] X.env = (false, eval a X.env) :: starEach [] X.env := by rfl) : PZ X CT U (.Call (.Name "str" p) [a] [] pos) (eCB strW ga) :=
  pz_callTy (CallR.or call_str_int SkE.call_str_str) cz_str hg hm PyProof.Rows.Boot.«str» ha (he := he)
def intTW : List W → Store → RE W
  | [.val (.int i)], S => .ok (.val (.int i)) S
  | [.val (.bl b)], S => .ok (.val (.int (if b = true then 1 else 0))) S
  | [.val (.str x)], S => match PySem.intText? x with
    | some n => if x.length ≤ 640 then .ok (.val (.int n)) S else .bad
    | none => .bad
  | _, _ => .bad
theorem cz_intT {K : PySem.W.Frag} : CallZ K CT (fun xs H Q => ((∃ i, xs = [.int i] ∧ Q (.int i) H) ∨ ∃ k, xs = [.bl k] ∧ Q (.int (if k then 1 else 0)) H) ∨ ∃ a n, xs = [.str a] ∧ PySem.intText? a = some n ∧ a.length ≤ 640 ∧ Q (.int n) H) intTW := fun s S H ws vs Q EX gd r h => by
  unfold intTW at h
  split at h
  · rename_i i
    obtain ⟨v, rfl, rv⟩ := rep1 r
    exact .inl (.inl ⟨i, by rw [show v = _ from rv], RG.here h gd rfl⟩)
  · rename_i i
    obtain ⟨v, rfl, rv⟩ := rep1 r
    exact .inl (.inr ⟨i, by rw [show v = _ from rv], RG.here h gd rfl⟩)
  · rename_i x
    obtain ⟨v, rfl, rv⟩ := rep1 r
    split at h
    · rename_i n en
      split at h
      · rename_i c; exact .inr ⟨x, n, by rw [show v = _ from rv], en, c, RG.here h gd rfl⟩
      · exact h.elim
    · exact h.elim
  · exact h.elim
theorem pz_intT (hg : Gl X "int") (hm : X.mg "int" = none) (ha : PZA X CT U [a] ga) (he : starEach [a] X.env = (false, eval a X.env) :: starEach [] X.env := by rfl) : PZ X CT U (.Call (.Name "int" p) [a] [] pos) (eCB intTW ga) :=
  pz_callTy (CallR.or call_int1 call_int_str) cz_intT hg hm PyProof.Rows.Boot.«int» ha (he := he)
/-! ### methods of texts -/
def isS : W → Bool
  | .val (.str _) => true
  | _ => false
def eM1 (op : W → W → Store → RE W) (fo fe : FE W) : FE W := fun ρ S => (fo ρ S).bind fun w S1 => if isS w = true then (fe ρ S1).bind fun u S2 => op w u S2 else .bad
def M1Z (K : PySem.W.Frag) (CT : CTb) (r : V → List V → Hp → VK → Prop) (op : W → W → Store → RE W) : Prop := ∀ (s : Fs) (S : Store) (H : Hp) (w u : W) (v z : V) (Q : VK) (EX : Value → Option Addr → Hp → Prop),
  Gd K CT s S H → RepW K CT s w v → RepW K CT s u z → RG K CT (RepW K CT) s (op w u S) Q EX → r v [z] H Q
theorem m1_can {r : V → List V → Hp → VK → Prop} {op : W → W → Store → RE W} (hz : M1Z X.K CT r op) {σ : L2.St} {H : Hp} {Q : VK} (h : canE X.K CT U (eM1 op fo fe) σ H Q) : tM1 r (canE X.K CT U fo) (canE X.K CT U fe) σ H Q := by
  obtain ⟨s, S, ρ, gd, en, h⟩ := h
  refine ⟨s, S, ρ, gd, en, RG.step h fun w S1 s1 H1 v x1 g1 r1 h1 => ?_⟩
  split at h1
  · rename_i c
    refine ⟨?_, s1, S1, ρ, g1, en.mono x1, RG.step h1 fun u S2 s2 H2 z x2 g2 r2 h2 => hz s2 S2 H2 w u v z Q _ g2 (r1.mono x2) r2 h2⟩
    unfold isS at c
    split at c
    · rename_i y; exact ⟨y, r1⟩
    · cases c
  · exact h1.elim
def splitW : W → W → Store → RE W
  | .val (.str a), .val (.str b), S => if b.length ≠ 0 ∧ a.length ≤ 1000000 then .ok (.val (.lst ((Txt.split a b).map .str))) S else .bad
  | _, _, _ => .bad
theorem rep_strs {K : PySem.W.Frag} {F : Hp} : ∀ ys : List Str, RepL K CT F (ys.map .str) (ys.map V.str)
  | [] => rfl
  | y :: ys => ⟨_, _, rfl, rfl, rep_strs ys⟩
theorem mz_split {K : PySem.W.Frag} : M1Z K CT (fun x xs H Q => ∃ a b, x = .str a ∧ xs = [.str b] ∧ (b.length == 0) = false ∧ a.length + 2 ≤ sizeLine ∧ rNewStrs (Txt.split a b) H Q) splitW := fun s S H w u v z Q EX gd rw ru h => by
  unfold splitW at h
  split at h
  · rename_i a b
    split at h
    · rename_i c
      refine ⟨a, b, rw, by rw [show z = _ from ru], by simpa using c.1, by have := c.2; rw [sizeLine_eq]; omega, fun p hp => ?_⟩
      · exact RG.new h gd hp fun F' e q => ⟨p, _, rfl, q, rep_strs _⟩
    · exact h.elim
  · exact h.elim
variable {apos : Pos}
theorem pz_split (ho : PZ X CT U o fo) (he : PZ X CT U e fe) (hs : starEach [e] X.env = [(false, eval e X.env)] := by rfl) (hbase : attributeBase o "split" X.env (eval o X.env) = eval o X.env := by rfl) (hline : (apos.endLine == pos.line) = true := by rfl) :
    PZ X CT U (.Call (.Attribute o "split" apos) [e] [] pos) (eM1 splitW fo fe) := weakE (pe_split ho he hs hbase hline) fun σ H Q h => m1_can mz_split h
def strsOf : List P → Option (List Str)
  | [] => some []
  | .str x :: ps => (strsOf ps).map (x :: ·)
  | _ :: _ => none
theorem strsOf_ok {K : PySem.W.Frag} {F : Hp} : ∀ {ps : List P} {vs : List V} {ys : List Str}, strsOf ps = some ys → RepL K CT F ps vs → vs = ys.map V.str
  | [], _, _, e, h => by cases e; exact h
  | .str x :: ps, _, _, e, ⟨v, vs', h1, h2, h3⟩ => by
    simp only [strsOf, Option.map_eq_some_iff] at e
    obtain ⟨ys, e1, rfl⟩ := e
    rw [h1, show v = _ from h2, strsOf_ok e1 h3]; rfl
  | .non :: _, _, _, e, _ => by cases e
  | .bl _ :: _, _, _, e, _ => by cases e
  | .int _ :: _, _, _, e, _ => by cases e
  | .tup _ :: _, _, _, e, _ => by cases e
  | .lst _ :: _, _, _, e, _ => by cases e
  | .dct _ _ :: _, _, _, e, _ => by cases e
  | .dcu _ _ :: _, _, _, e, _ => by cases e
  | .obj _ _ _ :: _, _, _, e, _ => by cases e
  | .scr _ :: _, _, _, e, _ => by cases e
def joinR (a : Str) (o : Option (List Str)) (S : Store) : RE W := match o with
  | some ys => if (ys.map (·.length)).sum + ys.length * a.length ≤ 1000000 then .ok (.val (.str (Txt.join a ys))) S else .bad
  | none => .bad
def joinW : W → W → Store → RE W
  | .val (.str a), u, S => match pOf S u with
    | some (.lst ps) => joinR a (strsOf ps) S
    | some (.tup ps) => joinR a (strsOf ps) S
    | _ => .bad
  | _, _, _ => .bad
theorem mz_join {K : PySem.W.Frag} : M1Z K CT (fun x xs H Q => ∃ a p, ∃ ys : List Str, x = .str a ∧ xs = [.ref p] ∧ (SqL K H p (ys.map V.str) ∨ SqT K H p (ys.map V.str)) ∧
    (ys.map (·.length)).sum + ys.length * a.length ≤ 16777216 ∧ Q (.str (Txt.join a ys)) H) joinW := fun s S H w u v z Q EX gd rw ru h => by
  unfold joinW at h
  split at h
  · rename_i a
    split at h
    · rename_i ps ep
      unfold joinR at h
      split at h
      · rename_i ys ey
        split at h
        · rename_i c
          obtain ⟨l, vs, rfl, h2, h3⟩ := (pOf_ok gd ru ep).lst gd
          exact ⟨a, l, ys, rw, rfl, .inl (by rw [← strsOf_ok ey h3]; exact SqL.of h2), by omega, RG.here h gd rfl⟩
        · exact h.elim
      · exact h.elim
    · rename_i ps ep
      unfold joinR at h
      split at h
      · rename_i ys ey
        split at h
        · rename_i c
          obtain ⟨l, vs, rfl, h2, h3⟩ := (pOf_ok gd ru ep).non_lst (fun _ e => nomatch e)
          exact ⟨a, l, ys, rw, rfl, .inr (by rw [← strsOf_ok ey h3]; exact gd.exF.st h2), by omega, RG.here h gd rfl⟩
        · exact h.elim
      · exact h.elim
    · exact h.elim
  · exact h.elim
theorem pz_join (ho : PZ X CT U o fo) (he : PZ X CT U e fe) (hs : starEach [e] X.env = [(false, eval e X.env)] := by rfl) (hbase : attributeBase o "join" X.env (eval o X.env) = eval o X.env := by rfl) (hline : (apos.endLine == pos.line) = true := by rfl) :
    PZ X CT U (.Call (.Attribute o "join" apos) [e] [] pos) (eM1 joinW fo fe) := weakE (pe_join ho he hs hbase hline) fun σ H Q h => m1_can mz_join h
end
end Z
end
-- part ZS0
section
set_option Elab.async false
set_option linter.all false
set_option maxRecDepth 100000
set_option autoImplicit false
/-! # an own error whose __init__ says super().__init__("..") and self.f = y -/
namespace Z
open PySem PySem.Spec PyProof.Rows L2
/-- such an __init__'s body -/
abbrev supBody (msg fld pn : Str) (jj : Nat) (p0 p1 p2 p3 p4 p5 q0 q1 q2 q3 : Pos) : List Stmt :=
  [.Expr (.Call (.Attribute (.Call (.Name "super" p0) [] [] p1) "__init__" p2) [.Constant (.str msg) jj p3] [] p4) p5, .Assign [.Attribute (.Name "self" q0) fld q1] (.Name pn q2) q3]
structure SupF (prog : Program) (K : PySem.W.Frag) (C f : Addr) (fld pn : Str) (fd : FuncData) : Prop where
  fn : ∃ (oc : Value) (od : Option Addr) (osl : Array (Option Value)) (qual : Str) (params : Arguments) (scope : Scope) (dV kV doc pm : Value) (an : Option Addr) (cda : Addr) (ct : Value) (cc : Addr) (msg : Str) (jj : Nat) (p0 p1 p2 p3 p4 p5 q0 q1 q2 q3 : Pos) (ar : Arg),
    fd = PySem.W.fnX "__init__" qual params (supBody msg fld pn jj p0 p1 p2 p3 p4 p5 q0 q1 q2 q3) scope [("__class__", cc)] dV kV doc pm an (.ref cda) ct ∧ K.lookup f = some ⟨oc, od, .func fd, osl⟩ ∧ PySem.W.codeIn K (.ref cda) qual = true ∧
    (∃ ccl cdd vs ccs file tf, K.lookup cda = some ⟨ccl, cdd, .fields vs, ccs⟩ ∧ vs[2]? = some (.str file tf) ∧ ((prog.main.file : Str) == file) = true) ∧
    (∃ cl cld csl, K.lookup cc = some ⟨cl, cld, .cell (some (.ref C)), csl⟩) ∧
    (params.posonlyargs ++ params.args).head? = some ar ∧ ar.arg = "self" ∧ scope.names.lookup ("super" : Str) = some .globalImplicit ∧ scope.names.lookup ("__class__" : Str) = some .free ∧ scope.names.lookup ("self" : Str) = some .local ∧ scope.names.lookup pn = some .local ∧
    (p2.endLine == p4.line) = true ∧ (∀ x ∈ scope.names, x.2 ≠ .cell) ∧ scope.kind = .function ∧ scope.isCoroutine = false ∧ scope.isGenerator = false
  pn : pn ≠ "self" ∧ (pn == ("__debug__" : Str)) = false
  cls : ∃ cd, PySem.W.clsIn K C = some cd
  sup : PySem.W.ks_superIn K C C "__init__" = some (some (.builtin "ValueError.__init__"))
  sub : PySem.W.subIn K (.ref C) (.type "ValueError") = some true
  mro : PySem.W.mroIn K C (.ref C) = some true
  opq : PySem.W.nsIn K cStatics "thirdparty.any" = some none
  exi : PySem.W.excInitIn K C [.type "ValueError", .type "Exception", .type "BaseException", .type "object"] "ValueError.__new__" = true
  oex : OexC K C
  nof : PySem.W.findIn K (.ref C) fld = some none
  htop : (prog.main.scope.names.lookup ("super" : Str)).isSome = false
def spSup (K : PySem.W.Frag) (C : Addr) (fld : Str) : Sp := fun vs H Q _ => ∃ a y, vs = [.ref a, y] ∧ H a = some (exo a C none) ∧ ∀ dx, H dx = none → dx ≠ a → Q .non (upd (upd H dx (exd dx [(fld, y)])) a (exo a C (some dx)))
/-- a scope of two names -/
def sc2 : Scope := { kind := .function, names := [], isGenerator := false, isCoroutine := false }
section
variable {P : Program} {w : World} {K : PySem.W.Frag} {mg : Str → Option Value} {base : Heap}
/-- the state behind the call, when nothing but the error itself has changed -/
theorem inv_sup {CX : CXT} {A : Around} {outer : List PySem.Env} {s s2 : Shared} {H : Hp} {E : XK} {f a C : Addr} {qual : Str} {cd : Value} {m : Str → Option Value} (hd : A.handled = none) (e0 : Env0 P w K mg base A outer s H) (ea : H a = some (exo a C none))
    (ho : s2.os = s.os) (hg : s2.gens = s.gens) (hn : s2.heap.Ns s.heap.objs.size m) (k : ∀ b o, b ≠ a → s.heap.get? b = some o → s2.heap.get? b = some o) (hx : ∃ t1 : Addr, s2.heap.get? a = some ({ cls := .ref C, dict := none, data := .fields #[.ref t1, .none, .none, .none, .bool false, .none] } : Obj)) :
    Inv (cxOf CX P w K mg base [] qual sc2 f cd A outer s H E) [] [] H s2 := by
  have na : ∀ {b : Addr}, H b = none → b ≠ a := fun {b} n z => by rw [z, ea] at n; cases n
  obtain ⟨t1, hx⟩ := hx
  have noA : ∀ b : Addr, b ∉ (cxOf CX P w K mg base [] qual sc2 f cd A outer s H E).ex := fun b z => absurd (show b ∈ ([] : List Addr) from z) (by simp)
  have nc : ∀ (x : Str) (c : Addr), (cxOf CX P w K mg base [] qual sc2 f cd A outer s H E).env.cells.lookup x = some c → False := fun x c h => by
    have h' : (([] : List (Str × Addr)).lookup x) = some c := h
    cases h'
  refine ⟨⟨e0.mod, rfl, rfl, rfl, Nat.le_refl _, fun x y c h1 h2 => (nc x c h1).elim, fun x hx => ?_, fun x c _ h => (nc x c h).elim, fun _ => hd, Around.frames_deeper e0.frames, .inr ⟨rfl, rfl⟩, fun b z => absurd z (noA b), e0.bs, e0.bsz, fun b _ _ => noA b, fun b z => absurd z (noA b), e0.funs, e0.frf⟩,
    ho, (by rw [hg]; exact e0.bare), ?_, ⟨m, hn, fun i x v h1 h2 h3 => by simp at h2⟩, fun x c h => (nc x c h).elim, e0.hok.fresh (Nat.le_refl _), fun x c h => (nc x c h).elim, fun p hp => absurd (show p ∈ ([] : List (Addr × Obj)) from hp) (by simp), ?_, rfl⟩
  · have h2 : (([] : List (Str × NameKind)).lookup x) = some .cell ∨ (([] : List (Str × NameKind)).lookup x) = some .free := hx
    rcases h2 with h | h <;> cases h
  · exact {
      keep := fun b o q n _ _ => k b o (na n) q
      slot := fun b o q n _ _ => ⟨o.slots, k b o (na n) q⟩
      free := fun b o q n _ => n
      there := fun b o q _ => by
        by_cases hb : b = a
        · exact ⟨_, by rw [hb]; exact hx⟩
        · exact ⟨o, k b o hb q⟩
      tups := fun b xs q => q
      frzs := fun b o v q => q
      tbls := fun b ps q => ⟨#[], by simp; exact q⟩ }
  · intro b o q
    by_cases hb : b = a
    · subst hb
      rw [ea] at q
      cases q
      exact exo_ok hx
    · exact (e0.hok b o q).stay (fun c v hc z => k c v (by
          rcases hc with hc | hc
          · rw [hc]; exact hb
          · exact at_ne ea hc exo_own) z) (fun c hc => hc) (fun c xs hc => hc)
theorem fn_super {CX : CXT} {k : Nat} {C f : Addr} {fld pn : Str} {fd : FuncData} (S : SupF P K C f fld pn fd) (hmg : mg "super" = none) : FnOk P w K mg base CX (k + 1) f fd ["self", pn] (spSup K C fld) := by
  obtain ⟨oc, od, osl, qual, params, scope, dV, kV, doc, pm, an, cda, ct, cc, msg, jj, p0, p1, p2, p3, p4, p5, q0, q1, q2, q3, ar, hfd, lk, hcd, ⟨ccl, cdd, cvs, ccs, file, tf, hcode, hvs, hfile⟩, ⟨cl, cld, csl, hcell⟩, har, han, ks, kc, ksf, kp, hline, hnc, hkd, hco, hge⟩ := S.fn
  obtain ⟨cd, hcls⟩ := S.cls
  have T := S.oex
  have hpn := S.pn
  have hsub := S.mro
  refine ⟨fun vs H Q E ⟨a, y, h, _⟩ => by rw [h]; rfl, fun A outer s H args us vs Q E hr e0 hb r hsp => ?_⟩
  obtain ⟨a, y, rfl, ea, hq⟩ := hsp
  obtain ⟨u, rfl, ry⟩ : ∃ u, us = [.ref a, u] ∧ RelV y u := by
    cases r with
    | cons r1 t => cases t with
      | cons r2 t2 => cases t2 with
        | nil => exact ⟨_, by rw [show _ = _ from r1], r2⟩
  subst hfd
  have KX : K.In s.heap := e0.mod.kin.keeps fun b o e => (e0.bs b o e).1
  have lim : s.heap.NoLimit := e0.mod.nolimit.keeps fun b o e => (e0.bs b o e).1
  obtain ⟨t1, hx⟩ := exo_at e0.hok ea
  have hax : a ≠ s.heap.objs.size := Nat.ne_of_lt (Heap.lt_size hx)
  refine PySem.ks_codeAny_call_defAt hr.depth (KX _ _ lk) rfl lim (PySem.W.codeRec_of KX hcd) rfl hb hnc (fun x hx => ?_) (fun h₀ hns hk => ?_) hco hge hkd
  · have hx : x ∈ [(("self" : Str), Value.ref a), (pn, u)] := hx
    simp only [List.mem_cons, List.not_mem_nil, or_false] at hx
    rcases hx with rfl | rfl
    · exact ksf
    · exact kp
  generalize hL : s.heap.objs.size = L at *
  generalize henv : callEnv (PySem.W.fnX "__init__" qual params (supBody msg fld pn jj p0 p1 p2 p3 p4 p5 q0 q1 q2 q3) scope [("__class__", cc)] dV kV doc pm an (.ref cda) ct) L f = env
  have g0 : ∀ b o, (PySem.W.hideAll s.heap [a]).get? b = some o → b ≠ a ∧ s.heap.get? b = some o := fun b o e => ⟨(fun z => by
    rw [z, PySem.W.hideAll_none [a] (by simp)] at e
    cases e), PySem.W.of_hideAll [a] e⟩
  have g1 : ∀ b o, s.heap.get? b = some o → b ≠ a → (PySem.W.hideAll s.heap [a]).get? b = some o := fun b o e n => PySem.W.hideAll_get [a] e (by simpa using n)
  have F0 : Fr (PySem.W.hideAll s.heap [a]) L h₀ (fun x => [(("self" : Str), Value.ref a), (pn, u)].reverse.lookup x) := ⟨hns, fun b o e => hk b o (g0 b o e).2, by rw [PySem.W.hideAll_size, hL]; exact Nat.le_refl _⟩
  have baseN : ∀ b o, base.get? b = some o → b ≠ a := fun b o e z => by
    have := (e0.bs b o e).2
    rw [z, ea] at this; cases this
  have XG : K.In (PySem.W.hideAll s.heap [a]) := e0.mod.kin.keeps fun b o e => g1 b o (e0.bs b o e).1 (baseN b o e)
  have N0 : News (PySem.W.hideAll s.heap [a]) L h₀ [(a, PySem.W.excObj C t1 none .none)] := fun p hp => by
    simp only [List.mem_cons, List.not_mem_nil, or_false] at hp
    subst hp
    exact ⟨hk _ _ hx, hax, PySem.W.hideAll_none [a] (by simp)⟩
  have hself : (fun x => [(("self" : Str), Value.ref a), (pn, u)].reverse.lookup x) ("self" : Str) = some (.ref a) := by
    have : (("self" : Str) == pn) = false := by simpa using fun z => hpn.1 z.symm
    simp [List.lookup_cons, this]
  have hpnv : (fun x => [(("self" : Str), Value.ref a), (pn, u)].reverse.lookup x) pn = some u := by simp [List.lookup_cons]
  generalize (fun x => [(("self" : Str), Value.ref a), (pn, u)].reverse.lookup x) = mm at *
  have eks : env.kindOf "super" = some .globalImplicit := by subst henv; exact ks
  have ekc : env.kindOf "__class__" = some .free := by subst henv; exact kc
  have esf : env.kindOf "self" = some .local := by subst henv; exact ksf
  have epn : env.kindOf pn = some .local := by subst henv; exact kp
  have ekd : env.scope.kind = .function := by subst henv; exact hkd
  have elo : env.locals = L := by subst henv; rfl
  have ein : interactive env = false := by unfold interactive; rw [ekd]; rfl
  have egl : env.globals = mainGlobals := by subst henv; rfl
  have ebl : env.builtins = builtinsNs := by subst henv; rfl
  have efu : env.func = some f := by subst henv; rfl
  have eco : env.code = .ref cda := by subst henv; rfl
  have ecl : env.cells.lookup ("__class__" : Str) = some cc := by subst henv; rfl
  have eE : starEach [Expr.Constant (.str msg) jj p3] env = [(false, eval (.Constant (.str msg) jj p3) env)] := rfl
  refine PySem.ks_wpAt_execs_cons ?_
  refine PySem.ks_wpAt_Expr_any ?_ ein
  show PySem.wpAt _ _ _ (do
    let ov ← attributeBase (.Call (.Name "super" p0) [] [] p1) "__init__" env (eval (.Call (.Name "super" p0) [] [] p1) env)
    standAt p2.atName
    methodCall (.Call (.Name "super" p0) [] [] p1) "__init__" p2 p4 env ov 1 (backTo p4 (starEach [Expr.Constant (.str msg) jj p3] env)) []) _ _ _
  have hform : methodCallForm 1 (backTo p4 (starEach [Expr.Constant (.str msg) jj p3] env)) [] = true := rfl
  have hpos : methodCallPos true (.Call (.Name "super" p0) [] [] p1) env p2 p4 = pure p4 := by unfold methodCallPos; simp [hline]
  refine PySem.wpAt_bind (PySem.wpAt_mono (Q := fun ov s₁ => PySem.wpAny _ _ (methodCall (.Call (.Name "super" p0) [] [] p1) "__init__" p2 p4 env ov 1 (backTo p4 (starEach [Expr.Constant (.str msg) jj p3] env)) []) _ _ s₁) ?_ (fun ov s₁ h₁ => PySem.wpAt_of_wpAny (wpAny_bind (wpAny_standAt h₁))) fun _ _ x => x)
  refine PySem.ks_wpAt_super_base eks ekc (by decide +kernel) efu (hk _ _ (KX _ _ lk)) rfl har eco (hk _ _ (KX _ _ hcode)) rfl hvs hfile S.htop ?_
  obtain ⟨mb, hb1, hb2⟩ := e0.mod.blt
  have kb : ∀ b o, base.get? b = some o → h₀.get? b = some o := fun b o e => hk b o (e0.bs b o e).1
  have boot : bootBuiltins ("super" : Str) = some (.type "super") := by decide +kernel
  refine PySem.W.ks_loadName_global ekd eks (Calls.loadGlobal_builtin (by rw [egl]; exact e0.mod.glob.keeps kb) hmg (by rw [ebl]; exact hb1.keeps kb) ((hb2 _ (by decide +kernel)).trans boot) ⟨rfl, ?_⟩)
  refine wpAny_loadName_free ekd ekc ecl ⟨_, hk _ _ (KX _ _ hcell), rfl⟩ ?_
  refine wpAny_loadName_local (m := mm) ekd (by rw [han]; exact esf) (by rw [elo]; exact F0.ns) (by rw [han]; exact hself) ?_
  obtain ⟨oD, hD1, hD2⟩ : ∃ oD, h₀.get? C = some oD ∧ oD.data = .cls cd := by
    unfold PySem.W.clsIn at hcls
    split at hcls
    · rename_i c d cd' sl ho
      cases hcls
      exact ⟨_, hk _ _ (KX _ _ ho), rfl⟩
    · cases hcls
  have I0 : PySem.W.InstAt h₀ a (PySem.W.excObj C t1 none .none) C none := ⟨hk _ _ hx, rfl, rfl, trivial⟩
  refine PySem.ks_wpAny_isType_cls hD1 hD2 ⟨rfl, ?_⟩
  refine PySem.ks_wpAny_call_super hD1 hD2 (hk _ _ hx) rfl (fun c e => by cases e) (PySem.W.looks_mroIn (XG.keeps F0.keep) hsub) (fun h1 e1 k1 => ?_)
  obtain ⟨F1, N1, l1⟩ := PySem.W.ks_newsPush (s := ⟨h₀, s.gens, s.drawn, s.toks + ([("self" : Str), pn].zip [Value.ref a, u]).length, s.os⟩) (o := PySem.W.ks_superObj C a C) F0 N0 rfl e1 k1
  unfold methodCall
  rw [hform]
  refine wpAny_bind (wpAny_holding ?_)
  show PySem.wpAny _ _ (getMethod (.ref h₀.objs.size) "__init__" _) _ _ _
  refine PySem.W.kxs_method (B := "ValueError") (i := "ValueError.__init__") (C := C) (D := C) (x := a) (so := h₀.objs.size) (odx := none) PySem.W.kxs_ValueError F1 XG N1 (by simp) ⟨(N1 (a, PySem.W.excObj C t1 none .none) (by simp)).1, rfl, rfl, trivial⟩ S.opq S.sup S.sub (by decide +kernel) fun qq h2 F2 N2 l2 => ?_
  refine wpAny_bind (wpAny_of_eq hpos ?_)
  show PySem.wpAny _ _ (callWith p4 (.ref qq) [] (backTo p4 (starEach [Expr.Constant (.str msg) jj p3] env)) []) _ _ _
  refine PySem.W.kxs_callWith1 (i := "ValueError.__init__") (x := a) N2 (by simp) ?_ eE rfl
  refine PyProof.Rows.args_cons (wpAny_Constant_str ?_) rfl
  refine PyProof.Rows.args_nil ⟨PySem.W.kxs_at N2 (by simp), ?_⟩
  have d1 : h₀.objs.size ≠ a := fun z => Nat.lt_irrefl _ (by
    have := l1 (a, PySem.W.excObj C t1 none .none) (by simp)
    rw [z] at this
    exact this)
  have d2 : qq ≠ a := fun z => Nat.lt_irrefl _ (by
    have := l2 (a, PySem.W.excObj C t1 none .none) (by simp)
    rw [z] at this
    exact this)
  refine PySem.W.kxs_call (x := a) (C := C) (t := t1) (dv := none) (c2 := .none) F2 XG N2 PySem.F.excBase_ValueError S.exi (by simp) (.tail d2 (.tail d1 (.head (fun p hp => by simp at hp)))) (by simp [sizeLine_eq]) fun t2 h3 F3 N3 l3 => ?_
  refine PySem.wpAt_of_wpAny ?_
  have hxa : h3.get? a = some (PySem.W.excObj C t2 none .none) := (N3 (a, PySem.W.excObj C t2 none .none) (by simp)).1
  have I3 : ∀ tk, Inv (cxOf CX P w K mg base [] qual sc2 f (.ref cda) A outer s H E) [] [] H ⟨h3, s.gens, s.drawn, tk, s.os⟩ := fun tk =>
    inv_sup hr.hd e0 ea rfl rfl (by rw [hL]; exact F3.ns) (fun b o n e => F3.keep b o (g1 b o e n)) ⟨t2, hxa⟩
  refine wpAny_execs_cons ?_
  refine plainObj_wpAny_Assign_Attribute ?_ rfl
  refine wpAny_Name (wpAny_loadName_local (m := mm) ekd epn (by rw [elo]; exact F3.ns) hpnv ?_) hpn.2
  refine wpAny_Name (wpAny_loadName_local (m := mm) ekd esf (by rw [elo]; exact F3.ns) hself ?_)
  refine ost_new (X := cxOf CX P w K mg base [] qual sc2 f (.ref cda) A outer s H E) T (I3 _) ea S.nof ry fun dx s' n ne J => ?_
  refine wpAny_execs_nil ?_
  exact ⟨.non, _, J.os, J.bare, J.base, J.hok, rfl, hq dx n ne⟩
end
end Z
end
-- part ZX
section
set_option Elab.async false
set_option linter.all false
set_option maxRecDepth 100000
set_option autoImplicit false
/-! # errors with a field: raised, caught as a name -/
namespace Z
open PySem PySem.Spec PyProof.Rows L2
def sRaiseV (c fld : Str) (fe : FE W) : FS := fun ρ S => (fe ρ S).toR ρ fun w S1 => (doFrz w S1).toR ρ fun p S2 => .ex ⟨c, [fld], [p]⟩ ρ S2
def rvEnd (c fld : Str) (ρ : Env) : List P → Store → R
  | [q], S => .ex ⟨c, [fld], [q]⟩ ρ S
  | _, _ => .bad
structure ErrF (P' : Program) (w : World) (K : PySem.W.Frag) (mg : Str → Option Value) (base : Heap) (CT : CTb) (c fld : Str) : Prop where
  T : OexC K (CT c)
  g : mg c = some (.ref (CT c))
  i : ∃ f fd pn, PySem.W.findIn K (.ref (CT c)) "__init__" = some (some (.ref f)) ∧ PySem.W.typeIn K (.ref f) = some (.type "function") ∧ FnOk P' w K mg base L2.CX0 1 f fd ["self", pn] (spSup K (CT c) fld) ∧ Binds K fd ["self", pn] []
section
variable {X : Cx} {CT : CTb} {U : WX} {e : Expr} {fe : FE W} {c fld : Str} {pos p : Pos} {j : Nat}
theorem del_upd {H : Hp} {a dx : Addr} {o o1 o2 u : HO} (ha : H a = none) (hd : dx ≠ a) : upd (L2.del (upd (upd (upd H a o) dx o1) a o2) a) dx u = upd H dx u := by
  funext b
  by_cases h1 : b = dx
  · subst h1; rw [upd_same, upd_same]
  · rw [upd_ne h1, upd_ne h1]
    by_cases h2 : b = a
    · subst h2; rw [del_same, ha]
    · rw [del_ne h2, upd_ne h2, upd_ne h1, upd_ne h2]
theorem zs_raiseV (E : ErrF X.prog X.w X.K X.mg X.base CT c fld) (hc : X.calm = true) (tk : Takes X U) (hr : Room j X.A) (hj : 2 ≤ j) (hg : Gl X c) (he : PZ X CT U e fe) (hdb : (c == ("__debug__" : Str)) = false := by decide)
    (hst : starEach [e] X.env = (false, eval e X.env) :: starEach [] X.env := by rfl) {cpos : Pos} : PZS X CT U (.Raise (some (.Call (.Name c p) [e] [] cpos)) none pos) (sRaiseV c fld fe) := by
  obtain ⟨f, fd, pn, h1, h2, F1, hb⟩ := E.i
  refine weakS (ps_raise hc tk (pmk_oex (dvs := []) E.T h1 h2 F1 (hr.mono hj) hb .nil L2.pass0 hg E.g (za_cons he za_nil hst) hdb hst)) fun D σ H h => ?_
  obtain ⟨s, S, ρ, gd, en, h⟩ := h
  refine ⟨s, S, ρ, gd, en, ?_⟩
  have h' : RS X.K CT s (((aCons fe aNil) ρ S).toR ρ fun ws S1 => (doFrzs ws S1).toR ρ (rvEnd c fld ρ)) D U := by
    unfold sRaiseV at h
    show RS X.K CT s (((fe ρ S).bind fun w S1 => .ok [w] S1).toR ρ _) D U
    cases ef : fe ρ S with
    | ok w S1 =>
      rw [ef] at h
      have h : RS X.K CT s ((doFrz w S1).toR ρ fun q S2 => .ex ⟨c, [fld], [q]⟩ ρ S2) D U := h
      show RS X.K CT s ((doFrzs [w] S1).toR ρ _) D U
      unfold doFrz at h
      unfold doFrzs Z.frzs
      cases eq : frz S1 w with
      | none => rw [eq] at h; exact h
      | some r => rw [eq] at h; exact h
    | ex x S1 => rw [ef] at h; exact h
    | bad => rw [ef] at h; exact h
  refine RS.step h' en fun ws S1 s1 H1 vs x1 g1 r1 h1 => ?_
  cases ew : doFrzs ws S1 with
  | ex x S2 => unfold doFrzs at ew; split at ew <;> cases ew
  | bad => rw [ew] at h1; exact h1.elim
  | ok ps S2 =>
    rw [ew] at h1
    have h1 : RS X.K CT s1 (rvEnd c fld ρ ps S2) D U := h1
    unfold rvEnd at h1
    split at h1
    · rename_i q
      unfold doFrzs at ew
      split at ew
      · rename_i ps' S' ef
        cases ew
        obtain ⟨s2, x2, g2, r2⟩ := frzs_ok g1 r1 ef
        obtain ⟨y, ys, rfl, ry, rfl⟩ := r2
        refine ⟨by simp, fun a ha => ⟨a, y, rfl, upd_same, fun dx hdx hne => ⟨rfl, dx, [(fld, y)], upd_same, ?_, ?_, ?_⟩⟩⟩
        · rw [upd_ne hne, upd_same]
        · rw [upd_ne hne] at hdx; exact hdx
        · have hd0 : H1 dx = none := by rw [upd_ne hne] at hdx; exact hdx
          rw [del_upd ha hne]
          obtain ⟨g3, x3⟩ := g2.newF hd0 (.xd [(fld, y)])
          exact h1 _ _ σ _ _ (x2.trans x3) g3 (((en.mono x1).mono x2).mono x3) ⟨rfl, .inr ⟨dx, [y], rfl, upd_same, rfl, ⟨y, [], rfl, ry.mono x3.f, rfl⟩⟩⟩
      · cases ew
    · exact h1.elim
end

/-! ### try .. except X as e -/
def CTb.at (CT : CTb) (q : Addr × Value × Option Addr × Xn) : CTb := ⟨CT.cls, CT.tabs, some q⟩
section
variable {K : PySem.W.Frag} {CT CT' : CTb} {F : Hp}
mutual
theorem RepP.ct (e : CT.cls = CT'.cls) : ∀ {p : P} {v : V}, RepP K CT F p v → RepP K CT' F p v
  | .non, _, h => h
  | .bl _, _, h => h
  | .int _, _, h => h
  | .str _, _, h => h
  | .tup ps, _, ⟨a, vs, h1, h2, h3⟩ => ⟨a, vs, h1, h2, RepL.ct e h3⟩
  | .lst ps, _, ⟨a, vs, h1, h2, h3⟩ => ⟨a, vs, h1, h2, RepL.ct e h3⟩
  | .scr ns, _, h => h
  | .dct ks ps, _, ⟨a, vs, h1, h2, hl, h3⟩ => ⟨a, vs, h1, h2, hl, RepL.ct e h3⟩
  | .dcu ks ps, _, ⟨a, vs, h1, h2, hl, h3⟩ => ⟨a, vs, h1, h2, hl, RepL.ct e h3⟩
  | .obj c ns ps, _, ⟨a, dx, vs, h1, h2, hl, h3⟩ => ⟨a, dx, vs, h1, by rw [← e]; exact h2, hl, RepL.ct e h3⟩
theorem RepL.ct (e : CT.cls = CT'.cls) : ∀ {ps : List P} {vs : List V}, RepL K CT F ps vs → RepL K CT' F ps vs
  | [], _, h => h
  | p :: ps, _, ⟨v, vs', h1, h2, h3⟩ => ⟨v, vs', h1, RepP.ct e h2, RepL.ct e h3⟩
end
theorem RepX.ct (e : CT.cls = CT'.cls) {x : Xn} {c : Value} {dd : Option Addr} (h : RepX K CT F x c dd) : RepX K CT' F x c dd := by
  obtain ⟨h1, h2⟩ := h
  exact ⟨by rw [← e]; exact h1, h2.imp id fun ⟨d, vs, h3, h4, h5, h6⟩ => ⟨d, vs, h3, h4, h5, h6.ct e⟩⟩
def okW : W → Bool
  | .exc => false
  | _ => true
def okC : Cell → Bool
  | .lst ws => ws.all okW
  | .ins _ _ ws => ws.all okW
  | .dct _ ws => ws.all okW
  | .dcu _ ws => ws.all okW
  | .frz _ => true
def okO : Option W → Bool
  | some w => okW w
  | none => true
variable {q : Addr × Value × Option Addr × Xn} {s : Fs} {S : Store} {H : Hp}
theorem RepW.toP (hp : CT.pin = none) {w : W} {v : V} (r : RepW K CT s w v) : RepW K (CT.at q) s w v := by
  cases w with
  | val p => exact RepP.ct (CT := CT) (CT' := CT.at q) rfl r
  | loc n => exact r
  | exc => obtain ⟨a, _, _, _, h, _⟩ := r; rw [hp] at h; cases h
theorem RepWs.toP (hp : CT.pin = none) : ∀ {ws : List W} {vs : List V}, RepWs K CT s ws vs → RepWs K (CT.at q) s ws vs
  | [], _, h => h
  | w :: ws, _, ⟨v, vs', h1, h2, h3⟩ => ⟨v, vs', h1, h2.toP hp, RepWs.toP hp h3⟩
theorem RepW.ofP {w : W} (hw : okW w = true) {v : V} (r : RepW K (CT.at q) s w v) : RepW K CT s w v := by
  cases w with
  | val p => exact RepP.ct (CT := CT.at q) (CT' := CT) rfl r
  | loc n => exact r
  | exc => cases hw
theorem RepWs.ofP : ∀ {ws : List W} {vs : List V}, ws.all okW = true → RepWs K (CT.at q) s ws vs → RepWs K CT s ws vs
  | [], _, _, h => h
  | w :: ws, _, hw, ⟨v, vs', h1, h2, h3⟩ => by
    rw [List.all_cons, Bool.and_eq_true] at hw
    exact ⟨v, vs', h1, h2.ofP hw.1, RepWs.ofP hw.2 h3⟩
theorem Gd.toP (hp : CT.pin = none) (g : Gd K CT s S H) : Gd K (CT.at q) s S H := by
  refine ⟨g.exF, g.exG, g.len, fun n c a h1 h2 => ?_, g.inj, g.tab, g.notF, g.notG⟩
  have z := g.cells n c a h1 h2
  cases c with
  | lst ws => obtain ⟨q1, q2, vs, q3, q4⟩ := z; exact ⟨q1, q2, vs, q3, q4.toP hp⟩
  | ins c ns ws => obtain ⟨q1, q2, dx, vs, q3, ql, q4⟩ := z; exact ⟨q1, q2, dx, vs, q3, ql, q4.toP hp⟩
  | dct ks ws => obtain ⟨q1, q2, vs, q3, ql, q4⟩ := z; exact ⟨q1, q2, vs, q3, ql, q4.toP hp⟩
  | dcu ks ws => obtain ⟨q1, q2, vs, q3, ql, q4⟩ := z; exact ⟨q1, q2, vs, q3, ql, q4.toP hp⟩
  | frz p => exact RepP.ct (CT := CT) (CT' := CT.at q) rfl z
theorem Gd.ofP (hs : S.all okC = true) (g : Gd K (CT.at q) s S H) : Gd K CT s S H := by
  refine ⟨g.exF, g.exG, g.len, fun n c a h1 h2 => ?_, g.inj, g.tab, g.notF, g.notG⟩
  have z := g.cells n c a h1 h2
  have hc : okC c = true := List.all_eq_true.mp hs c (List.mem_of_getElem? h1)
  cases c with
  | lst ws => obtain ⟨q1, q2, vs, q3, q4⟩ := z; exact ⟨q1, q2, vs, q3, q4.ofP hc⟩
  | ins c ns ws => obtain ⟨q1, q2, dx, vs, q3, ql, q4⟩ := z; exact ⟨q1, q2, dx, vs, q3, ql, q4.ofP hc⟩
  | dct ks ws => obtain ⟨q1, q2, vs, q3, ql, q4⟩ := z; exact ⟨q1, q2, vs, q3, ql, q4.ofP hc⟩
  | dcu ks ws => obtain ⟨q1, q2, vs, q3, ql, q4⟩ := z; exact ⟨q1, q2, vs, q3, ql, q4.ofP hc⟩
  | frz p => exact RepP.ct (CT := CT.at q) (CT' := CT) rfl z
theorem EnvOk.toP (hp : CT.pin = none) {ρ : Env} {σ : L2.St} (h : EnvOk K CT s ρ σ) : EnvOk K (CT.at q) s ρ σ := ⟨h.len, fun i w e => let ⟨v, h1, h2⟩ := h.get i w e; ⟨v, h1, h2.toP hp⟩⟩
theorem EnvOk.ofP {ρ : Env} {σ : L2.St} (hρ : ρ.all okO = true) (h : EnvOk K (CT.at q) s ρ σ) : EnvOk K CT s ρ σ := ⟨h.len, fun i w e => let ⟨v, h1, h2⟩ := h.get i w e; ⟨v, h1, h2.ofP (List.all_eq_true.mp hρ (some w) (List.mem_of_getElem? e))⟩⟩
end
def asEnd (i : Nat) : R → R
  | .nx ρ S => if S.all okC = true ∧ (ρ.set i none).all okO = true then .nx (ρ.set i none) S else .bad
  | .bk ρ S => if S.all okC = true ∧ (ρ.set i none).all okO = true then .bk (ρ.set i none) S else .bad
  | .ct ρ S => if S.all okC = true ∧ (ρ.set i none).all okO = true then .ct (ρ.set i none) S else .bad
  | .rt w S => if S.all okC = true ∧ okW w = true then .rt w S else .bad
  | _ => .bad
def sTryAs (M : Str → Str → Option Bool) (c : Str) (i : Nat) (body : FS) (suite : Xn → FS) : FS := fun ρ S => match body ρ S with
  | .ex x ρ' S' => match M x.cls c with
    | some true => asEnd i (suite x (ρ'.set i (some .exc)) S')
    | some false => .ex x ρ' S'
    | none => .bad
  | r => r
section
variable {X : Cx} {CT : CTb} {U : WX} {pos pos' np : Pos} {n c : Str} {i : Nat}
theorem as_end {s : Fs} {q : Addr × Value × Option Addr × Xn} {r : R} {D : Ends} (h : RS X.K CT s (asEnd i r) D U) :
    RS X.K (CT.at q) s r { nx := fun σ' H' => D.nx (σ'.set i none) H', rt := D.rt, bk := fun σ' H' => D.bk (σ'.set i none) H', ct := fun σ' H' => D.ct (σ'.set i none) H' } U0 := by
  cases r with
  | nx ρ S =>
    have h : RS X.K CT s (if S.all okC = true ∧ (ρ.set i none).all okO = true then .nx (ρ.set i none) S else .bad) D U := h
    split at h
    · rename_i hc
      exact fun s' H' σ' x g en => h s' H' _ x (g.ofP hc.1) ((en.unset none).ofP hc.2)
    · exact h.elim
  | bk ρ S =>
    have h : RS X.K CT s (if S.all okC = true ∧ (ρ.set i none).all okO = true then .bk (ρ.set i none) S else .bad) D U := h
    split at h
    · rename_i hc
      exact fun s' H' σ' x g en => h s' H' _ x (g.ofP hc.1) ((en.unset none).ofP hc.2)
    · exact h.elim
  | ct ρ S =>
    have h : RS X.K CT s (if S.all okC = true ∧ (ρ.set i none).all okO = true then .ct (ρ.set i none) S else .bad) D U := h
    split at h
    · rename_i hc
      exact fun s' H' σ' x g en => h s' H' _ x (g.ofP hc.1) ((en.unset none).ofP hc.2)
    · exact h.elim
  | rt w S =>
    have h : RS X.K CT s (if S.all okC = true ∧ okW w = true then .rt w S else .bad) D U := h
    split at h
    · rename_i hc
      exact fun s' H' v x g rv => h s' H' v x (g.ofP hc.1) (rv.ofP hc.2)
    · exact h.elim
  | ex x ρ S => exact h.elim
  | bad => exact h.elim
theorem zs_tryAs {M : Str → Str → Option Bool} {body : List Stmt} {b₀ : Stmt} {suite : List Stmt} {fb : FS} {fs : Xn → FS} (hM : ExmF X.K CT M) (hpin : CT.pin = none) (hst : X.stack = X.env :: X.outer) (hf : X.env.frame = some X.env.locals) (hN : X.N.Nodup) (hi : X.N[i]? = some n) (hln : X.env.kindOf n = some .local) (tk : Takes X U)
    (hg : Gl X c) (hm : X.mg c = some (.ref (CT c)))
    (hb : ∀ (W : WX) (pn : List (Addr × Obj)) (xe : Value → Shared → Prop), Takes (X.tr pn xe) W → PassesOwn (model X.prog X.w) X.A X.env xe → PZSs (X.tr pn xe) CT W body fb)
    (hsu : ∀ (a : Addr) (oe : Obj) (cls : Value) (d : Option Addr) (pn : List (Addr × Obj)) (x : Xn), Zc cls d oe → (∃ vs, oe.data = .fields vs) → cls = .ref (CT x.cls) → PZSs (X.suite a ((a, oe) :: pn)) (CT.at (a, cls, d, x)) U0 (b₀ :: suite) (fs x)) (hdb : (c == ("__debug__" : Str)) = false := by decide) :
    PZS X CT U (.Try body [.ExceptHandler (some (.Name c np)) (some n) (b₀ :: suite) pos'] [] [] pos) (sTryAs M c i fb fs) := by
  refine weakS (ps_try_as (tb := fun W => canS X.K CT W fb) (ts := fun a cls d D σ H => ∃ x : Xn, cls = .ref (CT x.cls) ∧ canS X.K (CT.at (a, cls, d, x)) U0 (fs x) D σ H) hst hf hN hi hln ⟨hg, hdb, .inl hm⟩ tk hb
    (fun a oe cls d pn hz hd => ⟨fun pins s σ H D I ⟨x, hc, h⟩ => (hsu a oe cls d pn x hz hd hc).run pins s σ H D I h⟩)) fun D σ H h => ?_
  obtain ⟨s, S, ρ, g, en, h⟩ := h
  refine ⟨s, S, ρ, g, en, ?_⟩
  unfold sTryAs at h
  cases ef : fb ρ S with
  | ex x2 ρ2 S2 =>
    rw [ef] at h
    intro s' H' σ' cv dd x1 g1 en1 rx
    have hcv : cv = .ref (CT x2.cls) := rx.1
    cases em : M x2.cls c with
    | none => simp only [em] at h; exact h.elim
    | some b =>
      refine ⟨b, by rw [hcv]; exact hM _ _ _ em, fun hbt a ha => ?_, fun hbf => ?_⟩
      · subst hbt
        simp only [em] at h
        refine ⟨x2, hcv, s', S2, ρ2.set i (some .exc), g1.toP hpin, (en1.toP hpin).set ⟨a, cv, dd, x2, rfl, rfl, RepX.ct (CT := CT) (CT' := CT.at (a, cv, dd, x2)) rfl rx⟩, as_end (RS.ext x1 h)⟩
      · subst hbf
        simp only [em] at h
        exact h s' H' σ' cv dd x1 g1 en1 rx
  | nx ρ2 S2 => rw [ef] at h; exact h
  | bk ρ2 S2 => rw [ef] at h; exact h
  | ct ρ2 S2 => rw [ef] at h; exact h
  | rt ρ2 S2 => rw [ef] at h; exact h
  | bad => rw [ef] at h; exact h
end
/-! ### in the suite: e.f, isinstance(e, C) -/
def eXf (c f : Str) (x : Xn) (fe : FE W) : FE W := fun ρ S => (fe ρ S).bind fun w S1 => match w with
  | .exc => if x.cls = c then orBad ((lookA f x.ns x.ps).map .val) S1 else .bad
  | _ => .bad
section
variable {X : Cx} {CT : CTb} {U : WX} {a : Addr} {oe : Obj} {cls : Value} {d : Option Addr} {pn : List (Addr × Obj)} {x : Xn} {c f : Str} {e : Expr} {fe : FE W} {pos : Pos}
theorem pz_xf (T : XfC X.K (CT c)) (hno : PySem.W.findIn X.K (.ref (CT c)) f = some none) (hz : Zc cls d oe) (hf : ∃ vs, oe.data = .fields vs) (he : PZ (X.suite a ((a, oe) :: pn)) (CT.at (a, cls, d, x)) U e fe)
    (hb : attributeBase e f X.env (eval e X.env) = eval e X.env := by rfl) : PZ (X.suite a ((a, oe) :: pn)) (CT.at (a, cls, d, x)) U (.Attribute e f pos) (eXf c f x fe) := by
  refine weakE (pe_xf T hno hz hf he hb) fun σ H Q ⟨s, S, ρ, gd, en, h⟩ => ?_
  refine ⟨s, S, ρ, gd, en, RG.step h fun w S1 s1 H1 v x1 g1 r1 h1 => ?_⟩
  cases w with
  | exc =>
    have h1 : RG X.K (CT.at (a, cls, d, x)) (RepW X.K (CT.at (a, cls, d, x))) s1 (if x.cls = c then orBad ((lookA f x.ns x.ps).map .val) S1 else .bad) Q (fun c d H' => U c d σ H') := h1
    split at h1
    · rename_i hc
      obtain ⟨a', cls', d', x', hp, rfl, rx⟩ := r1
      cases hp
      obtain ⟨rc, rx⟩ := rx
      obtain ⟨w, ew, hw⟩ := RG.orBad h1
      simp only [Option.map_eq_some_iff] at ew
      obtain ⟨p, ep, rfl⟩ := ew
      refine ⟨rfl, by rw [rc, hc]; rfl, ?_⟩
      rcases rx with ⟨n1, n2, _⟩ | ⟨dd, vs, e1, e2, e3, e4⟩
      · rw [n1] at ep; cases ep
      · obtain ⟨v, ev, rv⟩ := lookPs e4 ep
        exact ⟨dd, _, v, e1, g1.exF _ _ e2, ev, RG.here hw g1 rv⟩
    · exact h1.elim
  | val p => exact h1.elim
  | loc n => exact h1.elim
end
end Z
end
-- part ZX1
section
set_option Elab.async false
set_option linter.all false
set_option maxRecDepth 100000
set_option autoImplicit false
namespace PySem.W
open PySem PySem.Spec PySem.Calls PyProof.Rows
section
variable {prog : Program} {w : World} {A : Around} {E : Value → Shared → Prop} {s : Shared} {K : Frag} {x D : Addr} {ox : Obj}
theorem zx_find {C : Addr} {name : Str} {a g : Value} {od : Option Obj} (hc : (clsIn K C).isSome = true) (ha : findIn K (.ref C) name = some (some a)) (hg : specialIn K a "__get__" = some (some g)) (ht : takesIn K a = some true) : findObj K C od name = some (.bind g a) := by
  obtain ⟨cd, hc⟩ := Option.isSome_iff_exists.mp hc
  unfold findObj
  rw [hc, Option.bind_some, ha, Option.bind_some]
  simp [hg, ht]
/-- e.__class__ of an error that may have a dict -/
theorem zx_cls {od : Option Obj} {Q : Option Value → Shared → Prop} (T : L2.ExcC K D) (X : K.In s.heap) (I : InstAt s.heap x ox D od) (h : Q (some (.ref D)) { s with toks := s.toks + 1 }) : wpAny (model prog w) A (getAttr? (.ref x) "__class__") Q E s := by
  have hf : findObj K D od "__class__" = some (.bind (.builtin "getset_descriptor.__get__") (.builtin "object.__class__")) :=
    zx_find (by obtain ⟨cd, hc, _⟩ := any_some T.hd; rw [hc]; rfl) T.ha T.hn T.ht
  obtain ⟨hp, g, d, t, os⟩ := s
  have Ty := I.type (M := model prog w)
  have Lg := looks_findIn (M := model prog w) X T.hg
  have Lk := looks_findIn (M := model prog w) X T.hk
  have Lf := looks_find (M := model prog w) X I hf
  have sub : Looks (model prog w) hp (isInstance (.ref x) (.type "BaseException")) true := Ty.andThen (looks_subIn X T.hs)
  have z2 : (Value.builtin "BaseException.__getattribute__" == Value.builtin "object.__getattribute__") = false := by decide +kernel
  have z1 : (onTheHeap (Value.ref D) && Value.builtin "BaseException.__getattribute__" == Value.builtin "object.__getattribute__") = false := by rw [z2]; rfl
  have z0 : (false && onTheHeap (Value.builtin "BaseException.__getattribute__")) = false := rfl
  unfold getAttr? getAttrBy? getAttrBy
  refine wpAny_bind (wpAny_mkText (wpAny_bind (wpAny_attempt (wpAny_holding (wpAny_bind (Ty.at (wpAny_bind (Lg.at ?_))))))))
  show wpAny _ _ (if (onTheHeap (Value.ref D) && Value.builtin "BaseException.__getattribute__" == Value.builtin "object.__getattribute__") = true then _ else _) _ _ _
  rw [z1, if_neg Bool.false_ne_true]
  unfold getAttrByItsOwn hookBefore
  refine wpAny_bind ?_
  rw [if_pos (show onTheHeap (Value.ref D) = true from rfl)]
  refine Lk.at (wpAny_bind (wpAny_attempt (wpAny_holding ?_)))
  unfold callGetattribute
  rw [z0, if_neg Bool.false_ne_true]
  unfold boundAndCalled
  rw [PySem.F.excAttr_ValueError.ga.bind (.ref x)]
  refine wpAny_bind (wpAny_pure ?_)
  show wpAny _ _ (call (.builtin "BaseException.__getattribute__") [.ref x, .str "__class__" t]) _ _ _
  refine wpAny_call (codeAny_call_builtin PySem.F.excAttr_ValueError.ga.plain PySem.F.entry_bexc_ga ?_)
  refine @check_slot (model prog w) _ _ ⟨hp, g, d, t + 1, os⟩ "BaseException.__getattribute__" "BaseException" "__getattribute__" (.ref x) [.str "__class__" t] [] _ (by decide +kernel) (by decide +kernel) sub (PySem.F.args_bexc_ga (.ref x) (.str "__class__" t)) ?_
  unfold Builtin.«object.__getattribute__»
  refine wpAny_bind (wpAny_of_eq (a := ((Value.ref x : Value), [Value.str "__class__" t])) (by first | rfl | (simp only [slotArgs]; rfl)) ?_)
  refine wpAny_bind (wpAny_pure (wpAny_bind (Ty.at (wpAny_bind (Lf.at ?_)))))
  show wpAny _ _ (holding [Value.builtin "object.__class__"] (call (.builtin "getset_descriptor.__get__") [.builtin "object.__class__", .ref x, .ref D]) >>= ret) _ _ _
  refine wpAny_bind (wpAny_holding (wpAny_call (class_get (s := ⟨hp, g, d, t + 1, os⟩) (ox := ox) (od := od) X I T.hm ?_)))
  refine wpAny_pure ?_
  show wpAny _ _ (handedOut (.ref D)) _ _ _
  rw [handedOut_of (v := .ref D) rfl]
  first
    | exact wpAny_pure (wpAny_pure h)
    | exact wpAny_pure h
    | exact wpAny_pure (wpAny_bind (wpAny_pure (wpAny_pure h)))
theorem zx_kit (T : L2.ExcC K D) (od : Option Obj) : KitX K (.ref x) (.ref D) (fun h => InstAt h x ox D od) where
  ty := fun _ _ _ I => I.type
  it := fun _ _ X _ => by
    obtain ⟨cdD, hcD, _⟩ := any_some T.hd
    unfold clsIn at hcD
    split at hcD
    · rename_i c' d' cd' sl' ho
      intro A' Q' E' s' k q
      unfold isType loadHead
      exact wpAny_bind (wpAny_loadPart (k _ _ (X _ _ ho)) (wpAny_pure q))
    · cases hcD
  ne := fun h tp dd its n sl X htp => by
    obtain ⟨cdD, hcD, _⟩ := any_some T.hd
    refine Bool.eq_false_iff.mpr fun q => ?_
    have e : D = tp := Value.ref.inj (beq_iff_eq.mp q)
    subst e
    unfold clsIn at hcD
    split at hcD
    · rename_i c' d' cd' sl' ho
      have z := (X _ _ ho).symm.trans htp
      cases z
    · cases hcD
  ca := fun X I k => zx_cls T X I k
end
end PySem.W
namespace Z
open PySem PySem.Spec PyProof.Rows L2
/-- isinstance(e, c), e the error that the suite holds, with its dict -/
def rIsZE (K : PySem.W.Frag) (D a : Addr) (d : Option Addr) : List V → Hp → VK → Prop := fun xs H Q => ∃ (c : V) (cv : Value) (b : Bool), xs = [.ref a, c] ∧ (∀ u, RelV c u → u = cv) ∧ PySem.W.kitOne K (.ref D) cv = some b ∧ (∀ dd, d = some dd → ∃ fs, H dd = some (.xd fs)) ∧ Q (.bl b) H
theorem call_isZE {X : Cx} {a D : Addr} {d : Option Addr} {oe : Obj} {pn : List (Addr × Obj)} (C : ExcC X.K D) (hz : Zc (.ref D) d oe) (hf : ∃ vs, oe.data = .fields vs) : CallR (X.suite a ((a, oe) :: pn)) (.builtin "isinstance") (rIsZE X.K D a d) := by
  intro pins s σ H xs us Q I r h
  obtain ⟨c, cv, b, rfl, hcv, e, hd, q⟩ := h
  cases r with
  | cons rx rr =>
    cases rr with
    | cons rt rr =>
      cases rr
      cases rx
      have ec := hcv _ rt
      subst ec
      obtain ⟨hget, _⟩ := I.pin (a, oe) (List.mem_append.mpr (.inl List.mem_cons_self))
      obtain ⟨vs, hv⟩ := hf
      obtain ⟨od, J⟩ : ∃ od, PySem.W.InstAt s.heap a oe D od := by
        obtain ⟨oc, oda, odt, osl⟩ := oe
        obtain ⟨h1, h2⟩ := hz
        dsimp only at h1 h2 hv
        subst h1 h2 hv
        cases oda with
        | none => exact ⟨none, hget, rfl, rfl, trivial⟩
        | some dd =>
          obtain ⟨fs, ho⟩ := hd dd rfl
          have hx : ObjOk X.prog X.w H s.heap dd (.xd fs) := I.hok dd _ ho
          obtain ⟨mA, ⟨o, es, ep, hd2, _⟩, _⟩ := hx
          exact ⟨some o, hget, rfl, rfl, hd2⟩
      exact PySem.W.kia_one (PySem.W.zx_kit C od) I.kIn J e (fun z => nomatch z) fun tk => ⟨.bl b, H, I.kept (t' := tk) fun _ _ z => z, rfl, q⟩
/-- which class is under which, by name -/
structure KisF (K : PySem.W.Frag) (CT : CTb) (M : Str → Str → Option Bool) : Prop where
  k : ∀ r c b, M r c = some b → ExcC K (CT r) ∧ PySem.W.kitOne K (.ref (CT r)) (.ref (CT c)) = some b
def eXis (M : Str → Str → Option Bool) (c : Str) (x : Xn) (fe : FE W) : FE W := fun ρ S => match M x.cls c with
  | some b => (fe ρ S).bind fun w S1 => match w with
    | .exc => .ok (.val (.bl b)) S1
    | _ => .bad
  | none => .bad
section
variable {X : Cx} {CT : CTb} {U : WX} {a : Addr} {oe : Obj} {cls : Value} {d : Option Addr} {pn : List (Addr × Obj)} {x : Xn} {c : Str} {e : Expr} {fe : FE W} {pos p p2 : Pos} {M : Str → Str → Option Bool}
theorem pz_xis (T : KisF X.K CT M) (hz : Zc cls d oe) (hf : ∃ vs, oe.data = .fields vs) (hcl : cls = .ref (CT x.cls)) (hg : Gl X "isinstance") (hm : X.mg "isinstance" = none) (hgc : Gl X c) (hmc : X.mg c = some (.ref (CT c))) (he : PZ (X.suite a ((a, oe) :: pn)) (CT.at (a, cls, d, x)) U e fe)
    (hdb : (c == ("__debug__" : Str)) = false := by decide) (hst : starEach [e, .Name c p2] X.env = (false, eval e X.env) :: starEach [.Name c p2] X.env := by rfl) :
    PZ (X.suite a ((a, oe) :: pn)) (CT.at (a, cls, d, x)) U (.Call (.Name "isinstance" p) [e, .Name c p2] [] pos) (eXis M c x fe) := by
  cases eM : M x.cls c with
  | none =>
    refine ⟨fun pins s σ H Q I ⟨s1, S1, ρ1, gd, en, h⟩ => ?_⟩
    unfold eXis at h
    rw [eM] at h
    exact h.elim
  | some b =>
    obtain ⟨t1, t2⟩ := T.k _ _ _ eM
    subst hcl
    refine weakE (pe_callB (call_isZE t1 hz hf) hg hm (by decide +kernel) (pa_cons he (pa_cons (pe_glob (X := X.suite a ((a, oe) :: pn)) hgc hmc (v := .ref (CT c)) rfl hdb) pa_nil (by rfl)) hst) (by decide) (by decide) hst (by rfl)) fun σ H Q ⟨s, S, ρ, gd, en, h⟩ => ?_
    unfold eXis at h
    rw [eM] at h
    refine ⟨s, S, ρ, gd, en, RG.step h fun w S1 s1 H1 v x1 g1 r1 h1 => ?_⟩
    cases w with
    | val p => exact h1.elim
    | loc n => exact h1.elim
    | exc =>
      obtain ⟨a', cls', d', x', hp, rfl, rx⟩ := r1
      cases hp
      refine ⟨.ref (CT c), .ref (CT c), b, rfl, fun u hu => hu, t2, fun dd hd => ?_, RG.here h1 g1 rfl⟩
      rcases rx.2 with ⟨_, _, n3⟩ | ⟨d2, vs, e1, e2, _, _⟩
      · rw [n3] at hd; cases hd
      · rw [e1] at hd; cases hd
        exact ⟨_, g1.exF _ _ e2⟩
end
end Z
end
-- part ZX2
section
set_option Elab.async false
set_option linter.all false
set_option maxRecDepth 100000
set_option autoImplicit false
/-! # what must be checked of a class whose __init__ says super().__init__("..") and self.f = y -/
namespace Z
open PySem PySem.Spec PyProof.Rows L2
theorem sup_binds {K : PySem.W.Frag} {nm qual pn : Str} (hpn : pn = "line" ∨ pn = "name" ∨ pn = "limit") {a1 a2 : Option Expr} {q1 q2 : Pos} {body : List Stmt} {scope : Scope} {cl : List (Str × Addr)} {kV doc pm : Value} {an : Option Addr} {cdv ct : Value} :
    Binds K (PySem.W.fnX nm qual ⟨[], [⟨"self", a1, q1⟩, ⟨pn, a2, q2⟩], none, [], [], none, []⟩ body scope cl .none kV doc pm an cdv ct) ["self", pn] [] := by
  rcases hpn with rfl | rfl | rfl
  · exact .all fun us hl => match us, hl with
      | [u1, u2], _ => rfl
  · exact .all fun us hl => match us, hl with
      | [u1, u2], _ => rfl
  · exact .all fun us hl => match us, hl with
      | [u1, u2], _ => rfl
/-- the code's file -/
def fileB (K : PySem.W.Frag) (cda : Addr) (file : Str) : Bool := match K.lookup cda with
  | some ⟨_, _, .fields vs, _⟩ => (match (vs[2]? : Option Value) with
    | some (Value.str fi _) => decide (fi = file)
    | _ => false)
  | _ => false
def cellB (K : PySem.W.Frag) (cc C : Addr) : Bool := match K.lookup cc with
  | some ⟨_, _, .cell (some (.ref D)), _⟩ => decide (D = C)
  | _ => false
def scopeB (sc : Scope) (pn : Str) : Bool := decide (sc.names.lookup ("super" : Str) = some .globalImplicit) && (decide (sc.names.lookup ("__class__" : Str) = some .free) && (decide (sc.names.lookup ("self" : Str) = some .local) &&
  (decide (sc.names.lookup pn = some .local) && ((sc.names.all fun x => decide (x.2 ≠ .cell)) && (decide (sc.kind = .function) && (decide (sc.isCoroutine = false) && decide (sc.isGenerator = false)))))))
def bodyB (fld pn : Str) : FuncBody → Bool
  | .stmts [.Expr (.Call (.Attribute (.Call (.Name s1 _) [] [] _) n1 p2) [.Constant (.str _) _ _] [] p4) _, .Assign [.Attribute (.Name s2 _) fl _] (.Name pn' _) _] =>
    decide (s1 = "super") && (decide (n1 = "__init__") && (decide (s2 = "self") && (decide (fl = fld) && (decide (pn' = pn) && (p2.endLine == p4.line)))))
  | _ => false
def parB (pn : Str) : Arguments → Bool
  | ⟨[], [a1, a2], none, [], [], none, []⟩ => decide (a1.arg = "self") && decide (a2.arg = pn)
  | _ => false
def defB (K : PySem.W.Frag) (file : Str) (C f : Addr) (fld pn : Str) : Bool := match K.lookup f with
  | some ⟨_, _, .func ⟨nm, qual, params, body, scope, gl, cl, dV, _, _, _, _, code, _, bl⟩, _⟩ => (match code, cl, dV with
    | .ref cda, [(cn, cc)], .none => decide (nm = "__init__") && (decide (gl = mainGlobals) && (decide (bl = builtinsNs) && (decide (cn = "__class__") && (PySem.W.codeIn K (.ref cda) qual && (fileB K cda file && (cellB K cc C && (scopeB scope pn && (bodyB fld pn body && parB pn params))))))))
    | _, _, _ => false)
  | _ => false
def clsB (K : PySem.W.Frag) (C : Addr) (fld : Str) : Bool := (PySem.W.clsIn K C).isSome && (decide (PySem.W.ks_superIn K C C "__init__" = some (some (.builtin "ValueError.__init__"))) && (decide (PySem.W.subIn K (.ref C) (.type "ValueError") = some true) &&
  (decide (PySem.W.mroIn K C (.ref C) = some true) && (decide (PySem.W.nsIn K cStatics "thirdparty.any" = some none) && (PySem.W.excInitIn K C [.type "ValueError", .type "Exception", .type "BaseException", .type "object"] "ValueError.__new__" && decide (PySem.W.findIn K (.ref C) fld = some none))))))
def oexB (K : PySem.W.Frag) (C : Addr) : Bool := (match K.lookup C with
  | some ⟨.type t, _, .cls ⟨_, _, .ref C' :: bm, _, _, hd, _, _, _, _, del⟩, sl⟩ => (match sl.toList with
    | [_, _, _, _, some (.builtin n), _] => decide (t = "type") && (decide (C' = C) && (decide (n = "ValueError.__new__") && (decide (hd = true) && (decide (del = false) && PySem.HandSPX.refsVE bm))))
    | _ => false)
  | _ => false) && (decide (PySem.W.findIn K (.ref C) "__setattr__" = some (some (.builtin "object.__setattr__"))) && (decide (PySem.W.subIn K (.ref C) (.type "BaseException") = some true) && (decide (PySem.W.typeIn K (.ref C) = some (.type "type")) && PySem.W.keepIn K (.ref C))))
theorem oexB_ok {K : PySem.W.Frag} {C : Addr} (h : oexB K C = true) : OexC K C := by
  unfold oexB at h
  rw [Bool.and_eq_true] at h
  obtain ⟨h1, h⟩ := h
  simp only [Bool.and_eq_true, decide_eq_true_eq] at h
  obtain ⟨h2, h3, h4, h5⟩ := h
  refine ⟨?_, h2, h3, h4, h5⟩
  split at h1
  · rename_i t dd nm bs C' bm ns qn hd sn sb ab col dl sl q
    split at h1
    · rename_i x0 x1 x2 x3 n x5 hs
      simp only [Bool.and_eq_true, decide_eq_true_eq] at h1
      obtain ⟨rfl, rfl, rfl, rfl, rfl, e5⟩ := h1
      refine ⟨nm, qn, ns, bs, bm, sn, sb, ab, col, dd, x0, x1, x2, x3, x5, ?_, e5⟩
      have : sl = #[x0, x1, x2, x3, some (.builtin "ValueError.__new__"), x5] := Array.toList_inj.mp hs
      rw [this] at q
      exact q
    · cases h1
  · cases h1
theorem def_ok {prog : Program} {K : PySem.W.Frag} {C f : Addr} {fld pn file : Str} (hd : defB K file C f fld pn = true) (hc : clsB K C fld = true) (ho : oexB K C = true) (hf : ((prog.main.file : Str) == file) = true) (ht : (prog.main.scope.names.lookup ("super" : Str)).isSome = false)
    (hpn : pn = "line" ∨ pn = "name" ∨ pn = "limit") : ∃ fd, SupF prog K C f fld pn fd ∧ Binds K fd ["self", pn] [] := by
  unfold clsB at hc
  simp only [Bool.and_eq_true, decide_eq_true_eq] at hc
  obtain ⟨c1, c2, c3, c4, c5, c6, c7⟩ := hc
  have hpn2 : pn ≠ "self" ∧ (pn == ("__debug__" : Str)) = false := by rcases hpn with rfl | rfl | rfl <;> decide
  unfold defB at hd
  cases q : K.lookup f with
  | none => rw [q] at hd; cases hd
  | some o =>
    obtain ⟨oc, od, dt, osl⟩ := o
    rw [q] at hd
    cases dt with
    | func fd =>
      obtain ⟨nm, qual, params, body, scope, gl, cl, dV, kV, doc, pm, an, code, ct, bl⟩ := fd
      simp only at hd
      split at hd
      · rename_i cda cn cc
        simp only [Bool.and_eq_true, decide_eq_true_eq] at hd
        obtain ⟨rfl, rfl, rfl, rfl, d5, d6, d7, d8, d9, d10⟩ := hd
        unfold scopeB at d8
        simp only [Bool.and_eq_true, decide_eq_true_eq] at d8
        obtain ⟨s1, s2, s3, s4, s5, s6, s7, s8⟩ := d8
        unfold bodyB at d9
        split at d9
        · rename_i s1' p0 p1 n1 p2 msg jj p3 p4 p5 s2' q0 fl q1 pn' q2 q3
          simp only [Bool.and_eq_true, decide_eq_true_eq] at d9
          obtain ⟨rfl, rfl, rfl, rfl, rfl, hline⟩ := d9
          unfold parB at d10
          split at d10
          · rename_i a1 a2
            obtain ⟨a1n, a1a, a1p⟩ := a1
            obtain ⟨a2n, a2a, a2p⟩ := a2
            simp only [Bool.and_eq_true, decide_eq_true_eq] at d10
            obtain ⟨rfl, rfl⟩ := d10
            refine ⟨_, ⟨⟨oc, od, osl, qual, _, scope, .none, kV, doc, pm, an, cda, ct, cc, msg, jj, p0, p1, p2, p3, p4, p5, q0, q1, q2, q3, _, rfl, q, d5, ?_, ?_, rfl, rfl, s1, s2, s3, s4, hline, ?_, s6, s7, s8⟩, hpn2, ?_, c2, c3, c4, c5, c6, oexB_ok ho, c7, ht⟩, sup_binds hpn⟩
            · unfold fileB at d6
              cases r : K.lookup cda with
              | none => rw [r] at d6; cases d6
              | some o2 =>
                obtain ⟨c0, cdd, dt2, ccs⟩ := o2
                rw [r] at d6
                cases dt2 with
                | fields vs =>
                  simp only at d6
                  split at d6
                  · rename_i fi tf hv
                    simp only [decide_eq_true_eq] at d6
                    subst d6
                    exact ⟨c0, cdd, vs, ccs, fi, tf, rfl, hv, hf⟩
                  · cases d6
                | _ => cases d6
            · unfold cellB at d7
              cases r : K.lookup cc with
              | none => rw [r] at d7; cases d7
              | some o2 =>
                obtain ⟨c0, cdd, dt2, ccs⟩ := o2
                rw [r] at d7
                cases dt2 with
                | cell v =>
                  cases v with
                  | none => cases d7
                  | some v =>
                    cases v with
                    | ref D =>
                      simp only [decide_eq_true_eq] at d7
                      subst d7
                      exact ⟨_, _, _, rfl⟩
                    | _ => cases d7
                | _ => cases d7
            · intro x hx
              have := List.all_eq_true.mp s5 x hx
              simpa using this
            · exact Option.isSome_iff_exists.mp c1
          · cases d10
        · cases d9
      · cases hd
    | _ => cases hd
end Z
end
-- part ZE
section
set_option Elab.async false
set_option linter.all false
set_option maxRecDepth 100000
set_option autoImplicit false
/-! # enumerate over a tuple; zip of two tuples -/
namespace PySem
open PyProof.Rows PySem.Spec
theorem ze_new {v : Value} {o : Obj} {H : Heap → Prop} (B : Begins v o H) :
    Meets (Builtin.«enumerate.__new__» ⟨[.type "enumerate", v], []⟩) (fun _ R s => H s.heap ∧
      R (.ok (.ret (.ref (s.heap.push o).objs.size)))
        { s with heap := (s.heap.push o).push { cls := .type "enumerate", data := .fields #[.none, .bool false, .ref s.heap.objs.size, rawInt 0, .none, .none] } }) :=
  .of_wp fun prog w A R s h => by
    obtain ⟨hp, g, d, tk, os⟩ := s; obtain ⟨hl, h⟩ := h
    have hsub := PySem.sub_enumerate
    have q1 := fun A E Q => B.iter prog w A E ⟨hp, g, d, tk, os⟩ Q hl
    wp_walk using q1
    refine wpAny_stack_any fun st => wpAny_pure ?_
    split
    · rename_i c _ _ _ _ _
      cases (c == Value.type "enumerate")
      · wp_walk using q1
        exact ⟨_, rfl, h⟩
      · wp_walk using q1
        exact ⟨_, rfl, h⟩
    · wp_walk using q1
      exact ⟨_, rfl, h⟩
theorem ze_begins {prog : Program} {w : World} {A : Around} {E : Value → Shared → Prop} {s : Shared} {v : Value} {o : Obj} {H : Heap → Prop} {Q : Value → Shared → Prop} (B : Begins v o H) (h1 : H s.heap)
    (h : ∀ h', IsEnum h' (s.heap.objs.size + 1) s.heap.objs.size 0 .none → h'.get? s.heap.objs.size = some o → h'.objs.size = s.heap.objs.size + 2 →
      (∀ b o, s.heap.get? b = some o → h'.get? b = some o) → Q (.ref (s.heap.objs.size + 1)) { s with heap := h' }) :
    wpAny (model prog w) A (call (.type "enumerate") [v]) Q E s := by
  refine callType_new F.called_enumerate (by decide) (F.typeCall_enumerate_1 _) (F.newCall_enumerate_1 _) (fun obj => F.args_object_init_2 obj _) F.entry_enumerate_new (ze_new B) ⟨h1, ?_⟩
  have hz : (s.heap.push o).objs.size = s.heap.objs.size + 1 := Heap.size_push ..
  show _ ∧ _
  rw [hz]
  have he : IsEnum ((s.heap.push o).push { cls := .type "enumerate", data := .fields #[.none, .bool false, .ref s.heap.objs.size, rawInt 0, .none, .none] }) (s.heap.objs.size + 1) s.heap.objs.size 0 .none := by
    have := Heap.get?_push_size (s.heap.push o) (o := { cls := .type "enumerate", data := .fields #[.none, .bool false, .ref s.heap.objs.size, rawInt 0, .none, .none] }) rfl
    rw [hz] at this; exact this
  exact ⟨⟨_, he, rfl⟩, h _ he (Heap.get?_push_of_some _ (Heap.get?_push_size _ B.free)) (by rw [Heap.size_push, hz]) fun b o x => Heap.get?_push_of_some _ (Heap.get?_push_of_some _ x)⟩
theorem ze_end {prog : Program} {w : World} {A : Around} {E : Value → Shared → Prop} {s : Shared} {e it t : Addr} {i : Nat} {items : Array Value} {old : Value} {Q : Option Value → Shared → Prop} (hh : A.in1.handled = none)
    (he : IsEnum s.heap e it i old) (hit : s.heap.IsTupleIter it t i) (hl : s.heap.IsTuple t items) (hx : items[i]? = none)
    (hQ : ∀ h', Heap.ExtBut it s.heap h' → Q none { s with heap := h' }) : wpAny (model prog w) A (pyNext (.ref e)) Q E s := by
  have hT : s.TypeIs (.ref e) "enumerate" := ⟨_, he, rfl⟩
  unfold pyNext
  refine wpAny_bind (wpAny_attempt (wpAny_callSpecial?_slot (name := Str.ofString "__next__") hT F.slot_enumerate_next
    (wpAny_call_entry F.slot_enumerate_next hT F.entry_enumerate_next ?_ (F.args_enumerate_next_1 _))))
  show wpAny _ _ (field (.ref e) 2 >>= _) _ _ _
  refine wpAny_bind (wpAny_field he rfl (x := .ref it) rfl (wpAny_bind (wpAny_nextOf_tuple_end hh hit hl hx fun h' x he' ⟨o, ho, hc⟩ => ?_)))
  refine wpAny_bind (wpAny_isInstance (T := "StopIteration") (b := true) ⟨o, ho, hc⟩ isSubtype_stop ?_)
  exact wpAny_pure (hQ _ he')
end PySem
namespace L2
open PySem PySem.Spec PyProof.Rows
/-- the tuple at a as it stands at each turn, each item in a new pair -/
def IteT (K : PySem.W.Frag) (a : Addr) : It :=
  ⟨fun i H => ∃ (xs : List V) (x : V), SqT K H a xs ∧ xs[i]? = some x, fun i H v H' => ∃ T x, v = .ref T ∧ H T = none ∧ H' = upd H T (.tup [.int (i : Nat), x]) ∧ ∀ xs, SqT K H a xs → xs[i]? = some x, fun i H => ∃ xs : List V, SqT K H a xs ∧ xs.length ≤ i⟩
theorem turn_enumT {P : Program} {w : World} {K : PySem.W.Frag} {elts : List Expr} {kk : Nat} {tpos : Pos} (a e it : Addr) (hai : a ≠ it) :
    Turn P w K (.Tuple elts kk tpos) (IteT K a) [e, it] e (fun i h => (∃ old, IsEnum h e it ((i : Nat) : Int) old) ∧ h.IsTupleIter it a i ∧ e ≠ it ∧ e ≠ a) where
  mem := by simp
  obj := fun i h st b hb => by
    obtain ⟨⟨old, he⟩, ⟨o, ho, hc, hd⟩, _⟩ := st
    have e' : b = e ∨ b = it := by simpa using hb
    rcases e' with z | z
    · rw [z]; exact ⟨_, he, fun v q => nomatch q⟩
    · rw [z]; exact ⟨o, ho, fun v q => by rw [hd] at q; cases q⟩
  keep := fun i h h' st k => let ⟨⟨old, he⟩, hi, hne⟩ := st; ⟨⟨old, k e (by simp) _ he⟩, hi.at fun o q => k it (by simp) o q, hne⟩
  item := by
    intro X hP hw hK hc i pins s σ H E I hf st hg
    subst hP hw hK
    obtain ⟨⟨old, he⟩, hit, hne, hea⟩ := st
    obtain ⟨xs, x, hq, hx⟩ := hg
    obtain ⟨its, rv, p, hz⟩ := I.tuple hq
    obtain ⟨u, hu, ru⟩ := rv.get hx
    have hel : e < s.heap.objs.size := Heap.lt_size he
    have hil : it < s.heap.objs.size := by obtain ⟨_, q, _⟩ := hit; exact Heap.lt_size q
    have hlt : i < its.toArray.size := by
      have := (List.getElem?_eq_some_iff.mp hu).1
      simpa using this
    refine wpAny_pyNext_enum_itemD (fp := [it, a]) (D := Draws.tuple (prog := X.prog) (w := X.w) (A := X.A.in1) (show X.A.in1.handled = none from I.ok.hd hc) it a hai its.toArray) he ⟨hit, p⟩ hlt hne (by simp [hne, hea]) fun x2 h' tk hx2 ho hit' hT hsz hk => ?_
    have hxu : x2 = u := by
      have : its.toArray[i]? = some u := by simpa using hu
      rw [this] at hx2; cases hx2; rfl
    subst hxu
    refine ⟨_, rfl, wpAny_letOwnedTupleGo_enum (s := { s with heap := h', toks := tk + 1 }) ho fun h'' he' sb => ?_⟩
    have hT2 : h''.get? s.heap.objs.size = some { cls := .type "tuple", data := .seq #[.int i tk, x2] } := (sb.2 _ (Nat.ne_of_gt hel)).trans hT
    have new : ObjOk X.prog X.w (upd H s.heap.objs.size (.tup [.int (i : Nat), x])) h'' s.heap.objs.size (.tup [.int (i : Nat), x]) :=
      ⟨by show 2 ≤ sizeLine; decide, [.int i tk, x2], .cons ⟨_, rfl⟩ (.cons ru .nil), ⟨_, hT2, rfl, _, rfl⟩⟩
    have I1 : Inv X pins σ (upd H s.heap.objs.size (.tup [.int (i : Nat), x])) { s with heap := h'', toks := tk + 1 } :=
      I.turnedNew (ch := [e, it]) (fun b ob hb q => (sb.2 b (fun z => hb (by simp [z]))).trans (hk b ob (fun z => hb (by simp [z])) (fun z => hb (by simp [z])) q)) hf (Nat.le_refl _) new
    refine ⟨.ref s.heap.objs.size, _, I1, rfl, ⟨_, x, rfl, I.hok.fresh (Nat.le_refl _), rfl, fun ys hy => by rw [I.tuple_inj hy hq]; exact hx⟩, ⟨⟨x2, ?_⟩, hit'.1.at fun o q => (sb.2 it (Ne.symm hne)).trans q, hne, hea⟩, fun b hb => ?_⟩
    · have e1 : ((i + 1 : Nat) : Int) = (i : Int) + 1 := by omega
      rw [e1]; exact he'
    · have hb' : b < s.heap.objs.size := by
        have e' : b = e ∨ b = it := by simpa using hb
        rcases e' with z | z
        · rw [z]; exact hel
        · rw [z]; exact hil
      rw [upd_ne (Nat.ne_of_lt hb')]
      exact (hf b hb).1
  done := by
    intro X hP hw hK hc i pins s σ H E I hf st hg
    subst hP hw hK
    obtain ⟨⟨old, he⟩, hit, hne, hea⟩ := st
    obtain ⟨xs, hq, hx⟩ := hg
    obtain ⟨its, rv, p, hz⟩ := I.tuple hq
    obtain ⟨f0, f1, f2, f3, f4, f5⟩ := hf it (by simp)
    have hl := rv.length
    exact ze_end (show X.A.in1.handled = none from I.ok.hd hc) he hit p (by simp; omega) fun h' eb => ⟨rfl, I.turned (t' := s.toks) (fun b o hb q => eb b o hb q) f0 f1 f3 f4 f5⟩
  self := fun A i s Q E st h => let ⟨⟨_, he⟩, _⟩ := st; wpAny_pyIter_enum he h
def iEnumT (K : PySem.W.Frag) (ta : TA) : TI := fun σ H R => ta σ H fun vs H1 => ∃ a xs, vs = [.ref a] ∧ SqT K H1 a xs ∧ R (IteT K a) H1
theorem pi_enumT {X : Cx} {e : Expr} {ta : TA} {p pos tpos : Pos} {elts : List Expr} {kk : Nat} (hg : Gl X "enumerate") (hm : X.mg "enumerate" = none) (ha : PA X [e] ta) (hs : starEach [e] X.env = [(false, eval e X.env)] := by rfl) :
    PI X (.Tuple elts kk tpos) (.Call (.Name "enumerate" p) [e] [] pos) (iEnumT X.K ta) := by
  refine ⟨fun pins s σ H R I h => ?_⟩
  refine Call_ (ld_blt I hg hm boot_enumerate (PyProof.Rows.callWith_type1 (thn (ha.run pos pins s σ H _ I h) fun us s1 ⟨vs, H1, I1, r1, q1⟩ => ?_) hs rfl))
  obtain ⟨a, xs, ex, hq, q⟩ := q1
  subst ex
  cases r1 with
  | cons r rr =>
    cases rr
    cases r
    obtain ⟨its, rv, p', hz⟩ := I1.tuple hq
    have hal : a < s1.heap.objs.size := by obtain ⟨_, ho, _⟩ := id p'; exact Heap.lt_size ho
    refine ze_begins (begins_tuple a its.toArray) p' fun h' he hit hsz hk => wpAny_pyIter_enum he ?_
    have I2 : Inv X pins σ H1 { s1 with heap := h' } := I1.kept (t' := s1.toks) hk
    refine ⟨s1.heap.objs.size + 1, [s1.heap.objs.size + 1, s1.heap.objs.size], _, _, H1, rfl, I2, turn_enumT a (s1.heap.objs.size + 1) s1.heap.objs.size (Nat.ne_of_lt hal), ⟨⟨.none, he⟩, ⟨_, hit, rfl, rfl⟩, Nat.succ_ne_self _, Nat.ne_of_gt (Nat.lt_succ_of_lt hal)⟩, fun b hb => ?_, q⟩
    have e' : b = s1.heap.objs.size + 1 ∨ b = s1.heap.objs.size := by simpa using hb
    have hle : s1.heap.objs.size ≤ b := by
      rcases e' with z | z
      · rw [z]; exact Nat.le_add_right _ _
      · rw [z]; exact Nat.le_refl _
    exact I1.fpOk hle (I1.hok.fresh hle)
end L2
end
-- part ZL
section
set_option Elab.async false
set_option linter.all false
set_option maxRecDepth 100000
set_option autoImplicit false
/-! # enumerate and zip of lists or tuples; item assignment -/
namespace L2
open PySem PySem.Spec PyProof.Rows
def iEnumB (K : PySem.W.Frag) (ta : TA) : TI := fun σ H R => ta σ H fun vs H1 => ∃ a xs, vs = [.ref a] ∧ ((SqL K H1 a xs ∧ R (Ite K a) H1) ∨ (SqT K H1 a xs ∧ R (IteT K a) H1))
theorem pi_enumB {X : Cx} {e : Expr} {ta : TA} {p pos tpos : Pos} {elts : List Expr} {kk : Nat} (hg : Gl X "enumerate") (hm : X.mg "enumerate" = none) (ha : PA X [e] ta) (hs : starEach [e] X.env = [(false, eval e X.env)] := by rfl) :
    PI X (.Tuple elts kk tpos) (.Call (.Name "enumerate" p) [e] [] pos) (iEnumB X.K ta) := by
  refine ⟨fun pins s σ H R I h => ?_⟩
  refine Call_ (ld_blt I hg hm boot_enumerate (PyProof.Rows.callWith_type1 (thn (ha.run pos pins s σ H _ I h) fun us s1 ⟨vs, H1, I1, r1, q1⟩ => ?_) hs rfl))
  obtain ⟨a, xs, ex, q1⟩ := q1
  subst ex
  cases r1 with
  | cons r rr =>
    cases rr
    cases r
    rcases q1 with ⟨hq, q⟩ | ⟨hq, q⟩
    · obtain ⟨its, rv, p', hz⟩ := I1.list hq
      refine call_enumerate_list p'.isList fun h' he hit hsz hk => wpAny_pyIter_enum he ?_
      have I2 : Inv X pins σ H1 { s1 with heap := h' } := I1.kept (t' := s1.toks) hk
      refine ⟨s1.heap.objs.size + 1, [s1.heap.objs.size + 1, s1.heap.objs.size], _, _, H1, rfl, I2, turn_enum a (s1.heap.objs.size + 1) s1.heap.objs.size, ⟨⟨.none, he⟩, hit, Nat.succ_ne_self _⟩, fun b hb => ?_, q⟩
      have e' : b = s1.heap.objs.size + 1 ∨ b = s1.heap.objs.size := by simpa using hb
      have hle : s1.heap.objs.size ≤ b := by
        rcases e' with z | z
        · rw [z]; exact Nat.le_add_right _ _
        · rw [z]; exact Nat.le_refl _
      exact I1.fpOk hle (I1.hok.fresh hle)
    · obtain ⟨its, rv, p', hz⟩ := I1.tuple hq
      have hal : a < s1.heap.objs.size := by obtain ⟨_, ho, _⟩ := id p'; exact Heap.lt_size ho
      refine ze_begins (begins_tuple a its.toArray) p' fun h' he hit hsz hk => wpAny_pyIter_enum he ?_
      have I2 : Inv X pins σ H1 { s1 with heap := h' } := I1.kept (t' := s1.toks) hk
      refine ⟨s1.heap.objs.size + 1, [s1.heap.objs.size + 1, s1.heap.objs.size], _, _, H1, rfl, I2, turn_enumT a (s1.heap.objs.size + 1) s1.heap.objs.size (Nat.ne_of_lt hal), ⟨⟨.none, he⟩, ⟨_, hit, rfl, rfl⟩, Nat.succ_ne_self _, Nat.ne_of_gt (Nat.lt_succ_of_lt hal)⟩, fun b hb => ?_, q⟩
      have e' : b = s1.heap.objs.size + 1 ∨ b = s1.heap.objs.size := by simpa using hb
      have hle : s1.heap.objs.size ≤ b := by
        rcases e' with z | z
        · rw [z]; exact Nat.le_add_right _ _
        · rw [z]; exact Nat.le_refl _
      exact I1.fpOk hle (I1.hok.fresh hle)
section
variable {K : PySem.W.Frag} {a b : Addr} {xs ys : List V}
theorem walk_enumT : Walk (IteT K a) xs.length (fun H => SqT K H a xs) (YPair (fun i => some (.int (i : Nat))) (fun i => xs[i]?)) := by
  refine ⟨fun i _ hi q => ⟨xs, xs[i], q, by simp [hi]⟩, fun _ q => ⟨xs, q, Nat.le_refl _⟩, fun i H v H' _ q y => ?_⟩
  obtain ⟨T, x, h1, h2, h3, h4⟩ := y
  exact ⟨T, .int (i : Nat), x, h1, h2, h3, rfl, h4 xs q⟩
theorem walk_zipT {n : Nat} (hn : n = min xs.length ys.length) : Walk (RZ.ItzT K a b) n (fun H => SqT K H a xs ∧ SqT K H b ys) (YPair (fun i => xs[i]?) (fun i => ys[i]?)) := by
  subst hn
  refine ⟨fun i _ hi q => ?_, fun _ q => ⟨xs, ys, q.1, q.2, by omega⟩, fun i H v H' _ q y => ?_⟩
  · have h1 : i < xs.length := by omega
    have h2 : i < ys.length := by omega
    exact ⟨xs, ys, xs[i], ys[i], q.1, q.2, by simp [h1], by simp [h2]⟩
  · obtain ⟨T, x, z, h1, h2, h3, h4, h5⟩ := y
    exact ⟨T, x, z, h1, h2, h3, h4 xs q.1, h5 ys q.2⟩
end
end L2
namespace Z
open PySem PySem.Spec PyProof.Rows L2
section
variable {X : Cx} {CT : CTb} {U : WX} {a b e o i : Expr} {ga : FE (List W)} {fe fo fi : FE W} {pos p : Pos}
def zipAR (ps : List P) (S2 : Store) : RE (List P) := match ps with
  | [.lst xs, .lst ys] => .ok ((xs.zip ys).map fun q => .tup [q.1, q.2]) S2
  | [.tup xs, .tup ys] => .ok ((xs.zip ys).map fun q => .tup [q.1, q.2]) S2
  | _ => .bad
def iZipA (fa : FE (List W)) : FI := fun ρ S => (fa ρ S).bind fun ws S1 => (doFrzs ws S1).bind zipAR
theorem zipwT {K : PySem.W.Frag} {F : Hp} {a b : Addr} {xs ys : List V} {ps qs : List P} (h1 : SqT K F a xs) (h2 : SqT K F b ys) (r1 : RepL K CT F ps xs) (r2 : RepL K CT F qs ys) :
    WalkP K CT F ((ps.zip qs).map fun q => P.tup [q.1, q.2]) (RZ.ItzT K a b) := by
  refine ⟨fun H => SqT K H a xs ∧ SqT K H b ys, YPair (fun i => xs[i]?) (fun i => ys[i]?), by rw [List.length_map, List.length_zip, ← r1.length, ← r2.length]; exact walk_zipT (xs := xs) (ys := ys) rfl, fun H e => ⟨e.st h1, e.st h2⟩, fun i H v H' hi e y => ?_⟩
  obtain ⟨T, x, z, rfl, hT, rfl, e1, e2⟩ := y
  obtain ⟨p, p1, p2⟩ := r1.get e1
  obtain ⟨q, q1, q2⟩ := r2.get e2
  refine ⟨.tup [p, q], ?_, .inr ⟨T, .tup [x, z], hT, rfl, fun F' e f => ?_⟩⟩
  case refine_2 => exact pair_rep f (p2.mono e) (q2.mono e)
  rw [List.getElem?_map]
  have : (ps.zip qs)[i]? = some (p, q) := by rw [List.getElem?_zip_eq_some]; exact ⟨p1, q1⟩
  rw [this]; rfl
theorem zi_zipA {elts : List Expr} {kk : Nat} {tpos : Pos} (hg : Gl X "zip") (hm : X.mg "zip" = none) (ha : PZA X CT U [a, b] ga)
    (hs : starEach [a, b] X.env = (false, eval a X.env) :: starEach [b] X.env := by rfl) (hpl : (backTo pos (starEach [b] X.env)).any (·.1) = false := by rfl) : PZI X CT U (.Tuple elts kk tpos) (.Call (.Name "zip" p) [a, b] [] pos) (iZipA ga) :=
  weakI (RZ.pi_zipA hg hm ha hs hpl) fun σ H Rr ⟨s, S, ρ, gd, en, h⟩ => ⟨s, S, ρ, gd, en, RG.step h fun ws S1 s1 H1 vs x1 g1 r1 h1 => by
    obtain ⟨ps, S2, s2, x2, g2, r2, h2⟩ := RG.frzs g1 r1 h1
    unfold zipAR at h2
    split at h2
    · rename_i xs ys
      obtain ⟨v, _, rfl, rv, v', _, rfl, rv', e⟩ := r2
      have e := show _ = [] from e
      subst e
      obtain ⟨a1, us, rfl, f1, l1⟩ := rv
      obtain ⟨a2, us2, rfl, f2, l2⟩ := rv'
      exact ⟨a1, a2, us, us2, rfl, .inl ⟨SqL.of (g2.exF _ _ f1), SqL.of (g2.exF _ _ f2), RG.here h2 g2 (zipw f1 f2 l1 l2)⟩⟩
    · rename_i xs ys
      obtain ⟨v, _, rfl, rv, v', _, rfl, rv', e⟩ := r2
      have e := show _ = [] from e
      subst e
      obtain ⟨a1, us, rfl, f1, l1⟩ := rv
      obtain ⟨a2, us2, rfl, f2, l2⟩ := rv'
      exact ⟨a1, a2, us, us2, rfl, .inr ⟨g2.exF.st f1, g2.exF.st f2, RG.here h2 g2 (zipwT f1 f2 l1 l2)⟩⟩
    · exact h2.elim⟩
def enumAR (ps : List P) (S2 : Store) : RE (List P) := match ps with
  | [.lst xs] => .ok (((List.range xs.length).zip xs).map fun q => .tup [.int (q.1 : Int), q.2]) S2
  | [.tup xs] => .ok (((List.range xs.length).zip xs).map fun q => .tup [.int (q.1 : Int), q.2]) S2
  | _ => .bad
def iEnumA (fa : FE (List W)) : FI := fun ρ S => (fa ρ S).bind fun ws S1 => (doFrzs ws S1).bind enumAR
theorem enumwT {K : PySem.W.Frag} {F : Hp} {a : Addr} {xs : List V} {ps : List P} (h1 : SqT K F a xs) (r1 : RepL K CT F ps xs) :
    WalkP K CT F (((List.range ps.length).zip ps).map fun q => P.tup [.int (q.1 : Int), q.2]) (IteT K a) := by
  refine ⟨fun H => SqT K H a xs, YPair (fun i => some (.int (i : Nat))) (fun i => xs[i]?), by rw [List.length_map, List.length_zip, List.length_range, Nat.min_self, ← r1.length]; exact walk_enumT (xs := xs), fun H e => e.st h1, fun i H v H' hi e y => ?_⟩
  obtain ⟨T, x, z, rfl, hT, rfl, e1, e2⟩ := y
  cases e1
  obtain ⟨p, p1, p2⟩ := r1.get e2
  refine ⟨.tup [.int (i : Nat), p], ?_, .inr ⟨T, .tup [.int (i : Nat), z], hT, rfl, fun F' e f => ?_⟩⟩
  case refine_2 => exact pair_rep f rfl (p2.mono e)
  have hl := (List.getElem?_eq_some_iff.mp p1).1
  rw [List.getElem?_map]
  have : ((List.range ps.length).zip ps)[i]? = some (i, p) := by rw [List.getElem?_zip_eq_some]; exact ⟨List.getElem?_range hl, p1⟩
  rw [this]; rfl
theorem zi_enumA {elts : List Expr} {kk : Nat} {tpos : Pos} (hg : Gl X "enumerate") (hm : X.mg "enumerate" = none) (ha : PZA X CT U [a] ga) (hs : starEach [a] X.env = [(false, eval a X.env)] := by rfl) : PZI X CT U (.Tuple elts kk tpos) (.Call (.Name "enumerate" p) [a] [] pos) (iEnumA ga) :=
  weakI (pi_enumB hg hm ha hs) fun σ H Rr ⟨s, S, ρ, gd, en, h⟩ => ⟨s, S, ρ, gd, en, RG.step h fun ws S1 s1 H1 vs x1 g1 r1 h1 => by
    obtain ⟨ps, S2, s2, x2, g2, r2, h2⟩ := RG.frzs g1 r1 h1
    unfold enumAR at h2
    split at h2
    · rename_i xs
      obtain ⟨v, _, rfl, rv, e⟩ := r2
      have e := show _ = [] from e
      subst e
      obtain ⟨a1, us, rfl, f1, l1⟩ := rv
      exact ⟨a1, us, rfl, .inl ⟨SqL.of (g2.exF _ _ f1), RG.here h2 g2 (enumw f1 l1)⟩⟩
    · rename_i xs
      obtain ⟨v, _, rfl, rv, e⟩ := r2
      have e := show _ = [] from e
      subst e
      obtain ⟨a1, us, rfl, f1, l1⟩ := rv
      exact ⟨a1, us, rfl, .inr ⟨g2.exF.st f1, RG.here h2 g2 (enumwT f1 l1)⟩⟩
    · exact h2.elim⟩
/-- xs[i] = e on a live list -/
def setIW (o i w : W) (S : Store) : Option Store := match liveL S o, i with
  | some (n, xs), .val (.int k) => (ixN xs.length k).map fun j => S.set n (.lst (xs.set j w))
  | _, _ => none
def setIR (o i w : W) (ρ : Env) (S : Store) : R := match setIW o i w S with
  | some S' => .nx ρ S'
  | none => .bad
def sSetI (fo fi fv : FE W) : FS := fun ρ S => (fv ρ S).toR ρ fun w S1 => (fo ρ S1).toR ρ fun ow S2 => (fi ρ S2).toR ρ fun iw S3 => setIR ow iw w ρ S3
theorem RepWs.setI {K : PySem.W.Frag} {s : Fs} {w : W} {v : V} (r : RepW K CT s w v) : ∀ {ws : List W} {vs : List V} (j : Nat), RepWs K CT s ws vs → RepWs K CT s (ws.set j w) (vs.set j v)
  | [], vs, j, h => by rw [show vs = [] from h]; exact rfl
  | x :: ws, _, 0, ⟨y, ys, rfl, h1, h2⟩ => ⟨v, ys, rfl, r, h2⟩
  | x :: ws, _, j + 1, ⟨y, ys, rfl, h1, h2⟩ => ⟨y, ys.set j v, rfl, h1, RepWs.setI r j h2⟩
theorem zs_setI {fv : FE W} {value : Expr} {pos' : Pos} (ho : PZ X CT U o fo) (hi : PZ X CT U i fi) (hv : PZ X CT U value fv)
    (ha : ∀ v, assign (.Subscript o i pos') X.env v = (do
      let ov ← holding [v] (eval o X.env)
      let iv ← holding [v, ov] (eval i X.env)
      standAt pos'
      holding [v, ov, iv] (setItem ov iv v)
      release [v, ov, iv] []) := by intro _; rfl) (hs : swapsWithSole [.Subscript o i pos'] value pos.line X.env = pure false := by rfl) (hw : swappedStores [.Subscript o i pos'] value X.env = pure none := by rfl) :
    PZS X CT U (.Assign [.Subscript o i pos'] value pos) (sSetI fo fi fv) :=
  weakS (ps_asg hv (pg_sub ho hi set_list ha) hs hw) fun D σ H ⟨s, S, ρ, gd, en, h⟩ => ⟨s, S, ρ, gd, en, RS.step h en fun w S1 s1 H1 v x1 g1 r1 h1 => ⟨s1, S1, ρ, g1, en.mono x1, RS.step h1 (en.mono x1) fun ow S2 s2 H2 ov x2 g2 r2 h2 =>
    ⟨s2, S2, ρ, g2, (en.mono x1).mono x2, RS.step h2 ((en.mono x1).mono x2) fun iw S3 s3 H3 iv x3 g3 r3 h3 => by
    unfold setIR at h3
    split at h3
    · rename_i S' es
      unfold setIW at es
      split at es
      · rename_i n xs k el
        simp only [Option.map_eq_some_iff] at es
        obtain ⟨j, ej, rfl⟩ := es
        obtain ⟨a, us, rfl, q1, q2, q3, q4, q5, q6⟩ := liveL_ok g3 (r2.mono x3) el
        refine ⟨a, us, k, j, rfl, r3, q5, by rw [q6.length]; exact ej, ?_⟩
        exact RS.here h3 (g3.setC q1 trivial q2 q3 q4 (by rw [q5]; simp) ⟨q3, q4, _, upd_same, RepWs.setI ((r1.mono x2).mono x3) j q6⟩) (((en.mono x1).mono x2).mono x3)
      · cases es
    · exact h3.elim⟩⟩⟩
end
end Z
end
-- part ZM
section
set_option Elab.async false
set_option linter.all false
set_option maxRecDepth 100000
set_option autoImplicit false
/-! # facts of error classes, as Bools -/
namespace Z
open PySem PySem.Spec PyProof.Rows L2
/-- of the program -/
structure PFacts (P0 : Program) : Prop where
  f : ((P0.main.file : Str) == ("/claim/cut.py" : Str)) = true
  s : (P0.main.scope.names.lookup ("super" : Str)).isSome = false
def errB (K : PySem.W.Frag) (c fld pn : Str) : Bool :=
  defB K "/claim/cut.py" (He.ga K c) (He.ma K (He.ga K c) "__init__") fld pn && (clsB K (He.ga K c) fld && (oexB K (He.ga K c) &&
  (decide (PySem.W.findIn K (.ref (He.ga K c)) "__init__" = some (some (.ref (He.ma K (He.ga K c) "__init__")))) && decide (PySem.W.typeIn K (.ref (He.ma K (He.ga K c) "__init__")) = some (.type "function")))))
theorem err_mk {P0 : Program} {w : World} {K : PySem.W.Frag} {mg : Str → Option Value} {base : Heap} {tf : List He.Defn} {c fld pn : Str} (pf : PFacts P0) (h : errB K c fld pn = true) (g : mg c = some (.ref (He.ga K c))) (hs : mg "super" = none)
    (hpn : pn = "line" ∨ pn = "name" ∨ pn = "limit") : ErrF P0 w K mg base (ctOf K tf) c fld := by
  unfold errB at h
  simp only [Bool.and_eq_true, decide_eq_true_eq] at h
  obtain ⟨h1, h2, h3, h4, h5⟩ := h
  obtain ⟨fd, S, hb⟩ := def_ok h1 h2 h3 pf.f pf.s hpn
  exact ⟨oexB_ok h3, g, _, fd, pn, h4, h5, fn_super (k := 0) S hs, hb⟩
/-- isinstance of caught errors -/
def excCB (K : PySem.W.Frag) (D : Addr) : Bool :=
  decide (PySem.W.findIn K (.ref D) "__getattribute__" = some (some (.builtin "BaseException.__getattribute__"))) && (decide (PySem.W.findIn K (.ref D) "__getattr__" = some none) && (decide (PySem.W.subIn K (.ref D) (.type "BaseException") = some true) && (PySem.W.hasDictIn K D &&
  (decide (PySem.W.findIn K (.ref D) "__class__" = some (some (.builtin "object.__class__"))) && (decide (PySem.W.specialIn K (.builtin "object.__class__") "__get__" = some (some (.builtin "getset_descriptor.__get__"))) && (decide (PySem.W.takesIn K (.builtin "object.__class__") = some true) && decide (PySem.W.mroIn K D (.type "object") = some true)))))))
theorem excCB_ok {K : PySem.W.Frag} {D : Addr} (h : excCB K D = true) : ExcC K D := by
  unfold excCB at h
  simp only [Bool.and_eq_true, decide_eq_true_eq] at h
  obtain ⟨h1, h2, h3, h4, h5, h6, h7, h8⟩ := h
  exact ⟨h1, h2, h3, h4, h5, h6, h7, h8⟩
def kisB (K : PySem.W.Frag) (L : List ((Str × Str) × Bool)) : Bool := L.all fun q => excCB K (He.ga K q.1.1) && decide (PySem.W.kitOne K (.ref (He.ga K q.1.1)) (.ref (He.ga K q.1.2)) = some q.2)
theorem kis_mk {K : PySem.W.Frag} {tf : List He.Defn} {L : List ((Str × Str) × Bool)} (h : kisB K L = true) : KisF K (ctOf K tf) (fun r c => L.lookup (r, c)) := ⟨fun r c b hb => by
  have := List.all_eq_true.mp h _ (Z.lookup_mem hb)
  simp only [Bool.and_eq_true, decide_eq_true_eq] at this
  exact ⟨excCB_ok this.1, this.2⟩⟩
def xfdB (K : PySem.W.Frag) (c f : Str) : Bool := xfB K (He.ga K c) && decide (PySem.W.findIn K (.ref (He.ga K c)) f = some none)
theorem xfd_ok {K : PySem.W.Frag} {c f : Str} (h : xfdB K c f = true) : XfC K (He.ga K c) ∧ PySem.W.findIn K (.ref (He.ga K c)) f = some none := by
  unfold xfdB at h
  simp only [Bool.and_eq_true, decide_eq_true_eq] at h
  exact ⟨xfB_ok h.1, h.2⟩
/-! ## simp rules -/
@[simp] theorem lookA_nil' (f : Str) (ps : List P) : lookA f [] ps = none := by cases ps <;> rfl
theorem eIf_ap' : True := trivial
@[simp] theorem eUn_fmt (fe : FE W) (ρ : Env) (S : Store) : eUn fmtW fe ρ S = (fe ρ S).bind fmtW := id rfl
@[simp] theorem fmtW_str (y : Str) (S : Store) : fmtW (.val (.str y)) S = if y.length ≤ 1000000 then .ok (.val (.str y)) S else .bad := id rfl
@[simp] theorem fmtW_int (i : Int) (S : Store) : fmtW (.val (.int i)) S = if i.natAbs < 2 ^ 64 then .ok (.val (.str (toString i : String))) S else .bad := id rfl
@[simp] theorem eJs_ap (fs : List (FE W)) (ρ : Env) (S : Store) : eJs fs ρ S = jsGo ρ fs Str.empty S := id rfl
@[simp] theorem jsGo_nil (ρ : Env) (acc : Str) (S : Store) : jsGo ρ [] acc S = .ok (.val (.str acc)) S := id rfl
@[simp] theorem jsGo_cons (ρ : Env) (f : FE W) (fs : List (FE W)) (acc : Str) (S : Store) : jsGo ρ (f :: fs) acc S = (f ρ S).bind (jsStep acc (jsGo ρ fs)) := id rfl
@[simp] theorem jsStep_str (acc : Str) (k : Str → Store → RE W) (y : Str) (S : Store) : jsStep acc k (.val (.str y)) S = if acc.length + y.length ≤ 1000000 then k (acc ++ y) S else .bad := id rfl
@[simp] theorem strW_int (i : Int) (S : Store) : strW [.val (.int i)] S = if i.natAbs < 2 ^ 64 then .ok (.val (.str (toString i : String))) S else .bad := id rfl
@[simp] theorem strW_str (y : Str) (S : Store) : strW [.val (.str y)] S = .ok (.val (.str y)) S := id rfl
@[simp] theorem intTW_int (i : Int) (S : Store) : intTW [.val (.int i)] S = .ok (.val (.int i)) S := id rfl
@[simp] theorem intTW_bl (b : Bool) (S : Store) : intTW [.val (.bl b)] S = .ok (.val (.int (if b = true then 1 else 0))) S := id rfl
theorem intTW_str (x : Str) (n : Int) (S : Store) (h : PySem.intText? x = some n) (hl : x.length ≤ 640) : intTW [.val (.str x)] S = .ok (.val (.int n)) S := by
  show (match PySem.intText? x with | some n => if x.length ≤ 640 then RE.ok (W.val (.int n)) S else .bad | none => .bad) = _
  rw [h]; simp [hl]
@[simp] theorem isS_str (x : Str) : isS (.val (.str x)) = true := id rfl
@[simp] theorem eM1_ap (op : W → W → Store → RE W) (fo fe : FE W) (ρ : Env) (S : Store) : eM1 op fo fe ρ S = (fo ρ S).bind fun w S1 => if isS w = true then (fe ρ S1).bind fun u S2 => op w u S2 else .bad := id rfl
@[simp] theorem splitW_str (a b : Str) (S : Store) : splitW (.val (.str a)) (.val (.str b)) S = if b.length ≠ 0 ∧ a.length ≤ 1000000 then .ok (.val (.lst ((Txt.split a b).map .str))) S else .bad := id rfl
@[simp] theorem strsOf_nil : strsOf [] = some [] := id rfl
@[simp] theorem strsOf_cons (x : Str) (ps : List P) : strsOf (.str x :: ps) = (strsOf ps).map (x :: ·) := id rfl
@[simp] theorem strsOf_map {α : Type} (f : α → Str) : ∀ xs : List α, strsOf (xs.map fun x => .str (f x)) = some (xs.map f)
  | [] => rfl
  | x :: xs => by simp [strsOf_map f xs]
@[simp] theorem strsOf_strs (xs : List Str) : strsOf (xs.map .str) = some xs := by have := strsOf_map id xs; simpa using this
theorem joinW_pt (a : Str) (u : W) (S : Store) : joinW (.val (.str a)) u S = match pOf S u with
    | some (.lst ps) => joinR a (strsOf ps) S
    | some (.tup ps) => joinR a (strsOf ps) S
    | _ => .bad := rfl
@[simp] theorem joinW_lst (a : Str) (ps : List P) (S : Store) : joinW (.val (.str a)) (.val (.lst ps)) S = joinR a (strsOf ps) S := by rw [joinW_pt]; rfl
@[simp] theorem joinW_tup (a : Str) (ps : List P) (S : Store) : joinW (.val (.str a)) (.val (.tup ps)) S = joinR a (strsOf ps) S := by rw [joinW_pt]; rfl
@[simp] theorem joinR_some (a : Str) (ys : List Str) (S : Store) : joinR a (some ys) S = if (ys.map (·.length)).sum + ys.length * a.length ≤ 1000000 then .ok (.val (.str (Txt.join a ys))) S else .bad := id rfl
@[simp] theorem sRaiseV_ap (c fld : Str) (fe : FE W) (ρ : Env) (S : Store) : sRaiseV c fld fe ρ S = (fe ρ S).toR ρ fun w S1 => (doFrz w S1).toR ρ fun p S2 => .ex ⟨c, [fld], [p]⟩ ρ S2 := id rfl
@[simp] theorem zipAR_lst (xs ys : List P) (S : Store) : zipAR [.lst xs, .lst ys] S = .ok ((xs.zip ys).map fun q => .tup [q.1, q.2]) S := id rfl
@[simp] theorem zipAR_tup (xs ys : List P) (S : Store) : zipAR [.tup xs, .tup ys] S = .ok ((xs.zip ys).map fun q => .tup [q.1, q.2]) S := id rfl
@[simp] theorem iZipA_ap (fa : FE (List W)) (ρ : Env) (S : Store) : iZipA fa ρ S = (fa ρ S).bind fun ws S1 => (doFrzs ws S1).bind zipAR := id rfl
@[simp] theorem enumAR_lst (xs : List P) (S : Store) : enumAR [.lst xs] S = .ok (((List.range xs.length).zip xs).map fun q => .tup [.int (q.1 : Int), q.2]) S := id rfl
@[simp] theorem enumAR_tup (xs : List P) (S : Store) : enumAR [.tup xs] S = .ok (((List.range xs.length).zip xs).map fun q => .tup [.int (q.1 : Int), q.2]) S := id rfl
@[simp] theorem iEnumA_ap (fa : FE (List W)) (ρ : Env) (S : Store) : iEnumA fa ρ S = (fa ρ S).bind fun ws S1 => (doFrzs ws S1).bind enumAR := id rfl
@[simp] theorem sSetI_ap (fo fi fv : FE W) (ρ : Env) (S : Store) : sSetI fo fi fv ρ S = (fv ρ S).toR ρ fun w S1 => (fo ρ S1).toR ρ fun ow S2 => (fi ρ S2).toR ρ fun iw S3 => setIR ow iw w ρ S3 := id rfl
def asR (M : Str → Str → Option Bool) (c : Str) (i : Nat) (suite : Xn → FS) : R → R
  | .ex x ρ' S' => match M x.cls c with
    | some true => asEnd i (suite x (ρ'.set i (some .exc)) S')
    | some false => .ex x ρ' S'
    | none => .bad
  | r => r
@[simp] theorem sTryAs_ap (M : Str → Str → Option Bool) (c : Str) (i : Nat) (body : FS) (suite : Xn → FS) (ρ : Env) (S : Store) : sTryAs M c i body suite ρ S = asR M c i suite (body ρ S) := by
  unfold sTryAs asR
  cases body ρ S <;> rfl
@[simp] theorem asR_nx (M : Str → Str → Option Bool) (c : Str) (i : Nat) (suite : Xn → FS) (ρ : Env) (S : Store) : asR M c i suite (.nx ρ S) = .nx ρ S := id rfl
@[simp] theorem asR_rt (M : Str → Str → Option Bool) (c : Str) (i : Nat) (suite : Xn → FS) (w : W) (S : Store) : asR M c i suite (.rt w S) = .rt w S := id rfl
theorem asR_ex (M : Str → Str → Option Bool) (c : Str) (i : Nat) (suite : Xn → FS) (x : Xn) (ρ : Env) (S : Store) (h : M x.cls c = some true) : asR M c i suite (.ex x ρ S) = asEnd i (suite x (ρ.set i (some .exc)) S) := by
  unfold asR; simp only [h]
@[simp] theorem asEnd_rt (i : Nat) (w : W) (S : Store) : asEnd i (.rt w S) = if S.all okC = true ∧ okW w = true then .rt w S else .bad := id rfl
@[simp] theorem okW_val (p : P) : okW (.val p) = true := id rfl
@[simp] theorem okW_loc (n : Nat) : okW (.loc n) = true := id rfl
theorem eXf_exc (c f : Str) (x : Xn) (fe : FE W) (ρ : Env) (S S1 : Store) (h : fe ρ S = .ok .exc S1) (hc : x.cls = c) : eXf c f x fe ρ S = orBad ((lookA f x.ns x.ps).map .val) S1 := by
  unfold eXf; rw [h]; simp [RE.bind, hc]
theorem eXis_exc (M : Str → Str → Option Bool) (c : Str) (x : Xn) (b : Bool) (fe : FE W) (ρ : Env) (S S1 : Store) (h : fe ρ S = .ok .exc S1) (hm : M x.cls c = some b) : eXis M c x fe ρ S = .ok (.val (.bl b)) S1 := by
  unfold eXis; rw [hm, h]; rfl
end Z
end
-- part ZN
section
set_option Elab.async false
set_option linter.all false
set_option maxRecDepth 100000
set_option autoImplicit false
/-! # new lists that will be changed: xs + ys, xs * n, comprehensions -/
namespace Z
open PySem PySem.Spec PyProof.Rows L2
section
variable {K : PySem.W.Frag} {CT : CTb} {s : Fs} {S : Store} {H : Hp}
theorem repWs_val : ∀ {ps : List P} {vs : List V}, RepL K CT s.F ps vs → RepWs K CT s (ps.map .val) vs
  | [], _, h => h
  | p :: ps, _, ⟨v, vs', h1, h2, h3⟩ => ⟨v, vs', h1, h2, repWs_val h3⟩
/-- the cell at D, known to nobody, becomes a live list -/
theorem Gd.adoptL (g : Gd K CT s S H) {D : Addr} {ws : List W} {vs : List V} (hF : s.F D = none) (hG : s.G D = none) (hH : H D = some (.lst vs)) (ne : ∀ (n : Nat) (c : Cell) (a : Addr), S[n]? = some c → s.m[n]? = some a → live c → a ≠ D) (r : RepWs K CT s ws vs) :
    Gd K CT { s with m := s.m ++ [D] } (S ++ [.lst ws]) H ∧ Ext s { s with m := s.m ++ [D] } ∧ (s.m ++ [D])[S.length]? = some D := by
  have x : Ext s { s with m := s.m ++ [D] } := ⟨rfl, Ex.refl _, snoc_ext, fun _ h _ => h⟩
  have key : ∀ (n : Nat) (c' : Cell) (a : Addr), (S ++ [Cell.lst ws])[n]? = some c' → (s.m ++ [D])[n]? = some a → (S[n]? = some c' ∧ s.m[n]? = some a) ∨ (n = S.length ∧ c' = .lst ws ∧ a = D) := fun n c' a h1 h2 => by
    rcases get_snoc h1 with q | ⟨q, q'⟩
    · rcases get_snoc h2 with r | ⟨r, r'⟩
      · exact .inl ⟨q, r⟩
      · have := (List.getElem?_eq_some_iff.mp q).1
        rw [g.len] at r; omega
    · rcases get_snoc h2 with r | ⟨r, r'⟩
      · have := (List.getElem?_eq_some_iff.mp r).1
        rw [g.len] at this; omega
      · exact .inr ⟨q, q', r'⟩
  refine ⟨⟨g.exF, g.exG, by simp [g.len], fun n c' a h1 h2 => ?_, fun n n' c1 c2 a h1 h2 l1 l2 e1 e2 => ?_, g.tab, g.notF, g.notG⟩, x, by rw [← g.len]; simp⟩
  · rcases key n c' a h1 h2 with ⟨q1, q2⟩ | ⟨_, rfl, rfl⟩
    · have q := g.cells n c' a q1 q2
      cases c' with
      | lst ws => obtain ⟨q1, q2, vs, q3, q4⟩ := q; exact ⟨q1, q2, vs, q3, q4.mono x⟩
      | dct ks ws => obtain ⟨q1, q2, vs, q3, ql, q4⟩ := q; exact ⟨q1, q2, vs, q3, ql, q4.mono x⟩
      | dcu ks ws => obtain ⟨q1, q2, vs, q3, ql, q4⟩ := q; exact ⟨q1, q2, vs, q3, ql, q4.mono x⟩
      | ins c ns ws => obtain ⟨q1, q2, dx, vs, q3, ql, q4⟩ := q; exact ⟨q1, q2, dx, vs, q3, ql, q4.mono x⟩
      | frz p => exact RepP.mono x.f q
    · exact ⟨hF, hG, vs, hH, r.mono x⟩
  · rcases key n c1 a h1 e1 with ⟨q1, q2⟩ | ⟨z1, rfl, z2⟩
    · rcases key n' c2 a h2 e2 with ⟨q3, q4⟩ | ⟨z1, rfl, z2⟩
      · exact g.inj n n' c1 c2 a q1 q3 l1 l2 q2 q4
      · exact (ne n c1 a q1 q2 l1 z2).elim
    · rcases key n' c2 a h2 e2 with ⟨q3, q4⟩ | ⟨z3, rfl, z4⟩
      · exact (ne n' c2 a q3 q4 l2 z2).elim
      · rw [z1, z3]
/-! ### xs + ys, xs * n -/
def addLW : O2 := fun a b S => match pOf S a, pOf S b with
  | some (.lst ps), some (.lst qs) => if ps.length + qs.length ≤ 100000 then .ok (.loc S.length) (S ++ [.lst ((ps ++ qs).map .val)]) else .bad
  | _, _ => .bad
theorem oz_addL : OpZ K CT rCat addLW := by
  intro s S H a b x y Q EX gd ra rb h
  unfold addLW at h
  split at h
  · rename_i ps qs ea eb
    obtain ⟨a1, vs, rfl, t1, l1⟩ := (pOf_ok gd ra ea).lst gd
    obtain ⟨a2, us, rfl, t2, l2⟩ := (pOf_ok gd rb eb).lst gd
    split at h
    · rename_i c
      exact ⟨a1, a2, vs, us, rfl, rfl, t1, t2, by rw [l1.length, l2.length]; exact sz5 c, fun p hp => RG.newL h gd (repWs_val (l1.append l2)) hp⟩
    · exact h.elim
  · exact h.elim
def mulLW : O2 := fun a b S => match pOf S a, pOf S b with
  | some (.lst ps), some (.int k) => if k < 100000 ∧ -100000 < k ∧ ps.length * k.toNat ≤ 100000 then .ok (.loc S.length) (S ++ [.lst ((List.replicate k.toNat ps).flatten.map .val)]) else .bad
  | _, _ => .bad
theorem oz_mulL : OpZ K CT rRep mulLW := by
  intro s S H a b x y Q EX gd ra rb h
  unfold mulLW at h
  split at h
  · rename_i ps k ea eb
    obtain ⟨a1, vs, rfl, t1, l1⟩ := (pOf_ok gd ra ea).lst gd
    have h2 := (pOf_ok gd rb eb).non_lst (fun _ e => nomatch e)
    split at h
    · rename_i c
      exact ⟨a1, k, vs, rfl, h2, t1, by omega, by omega, by rw [l1.length]; exact sz5 c.2.2, fun p hp => RG.newL h gd (repWs_val (RepL.rep l1 _)) hp⟩
    · exact h.elim
  · exact h.elim
end
section
variable {X : Cx} {CT : CTb} {U : WX} {a b c : Expr} {fa fb fc : FE W} {pos : Pos}
theorem pz_addL (ha : PZ X CT U a fa) (hb : PZ X CT U b fb) : PZ X CT U (.BinOp a .Add b pos) (eBin addLW fa fb) := pz_bin op_cat oz_addL ha hb
theorem pz_mulL (ha : PZ X CT U a fa) (hb : PZ X CT U b fb) : PZ X CT U (.BinOp a .Mult b pos) (eBin mulLW fa fb) := pz_bin op_rep oz_mulL ha hb
end
/-! ### comprehensions: a live list -/
def eLcL (fi : FI) (vs : List Nat) (t : Tg) (c : FE Bool) (e : FE W) : FE W := fun ρ S => (fi ρ S).bind fun ps S1 => if ps.length ≤ 100000 then (lcGo vs t c e ρ ps S1).bind fun qs S2 => .ok (.loc S2.length) (S2 ++ [.lst (qs.map .val)]) else .bad
section
variable {K : PySem.W.Frag} {CT : CTb}
def LcStL (K : PySem.W.Frag) (CT : CTb) (s1 : Fs) (D : Addr) (vs : List Nat) (t : Tg) (c : FE Bool) (e : FE W) (ρ : Env) (ps : List P) (Q : VK) (EX : Value → Option Addr → Hp → Prop) (i : Nat) (H : Hp) : Prop :=
  ∃ (s : Fs) (S : Store) (acc : List P) (vacc : List V), Ext s1 s ∧ Gd K CT (s.fr D (.lst vacc)) S H ∧ s.F D = none ∧ RepL K CT s.F acc vacc ∧ acc.length ≤ i ∧
    RG K CT (RepW K CT) s ((lcGo vs t c e ρ (ps.drop i) S).bind fun qs S2 => .ok (.loc S2.length) (S2 ++ [.lst ((acc ++ qs).map .val)])) Q EX
theorem lcL_start {s1 : Fs} {D : Addr} {vs : List Nat} {t : Tg} {c : FE Bool} {e : FE W} {ρ : Env} {ps : List P} {Q : VK} {EX : Value → Option Addr → Hp → Prop} {S1 : Store} {H1 : Hp} (g : Gd K CT s1 S1 H1) (hD : H1 D = none)
    (h : RG K CT (RepW K CT) s1 ((lcGo vs t c e ρ ps S1).bind fun qs S2 => .ok (.loc S2.length) (S2 ++ [.lst (qs.map .val)])) Q EX) : LcStL K CT s1 D vs t c e ρ ps Q EX 0 (upd H1 D (.lst [])) :=
  ⟨s1, S1, [], [], Ext.refl _, g.setFr (g.exF.back hD) (g.exG.back hD) (fun n c a h1 h2 l z => (g.liveAt h1 h2 l).2.2 (by rw [z]; exact hD)) (g.neTab hD), g.exF.back hD, rfl, Nat.le_refl _, h⟩
theorem lcL_end {s1 : Fs} {D : Addr} {vs : List Nat} {t : Tg} {c : FE Bool} {e : FE W} {ρ : Env} {ps : List P} {Q : VK} {EX : Value → Option Addr → Hp → Prop} {H : Hp} {H1 : Hp} {S1 : Store} (g1 : Gd K CT s1 S1 H1) (hD : H1 D = none)
    (h : LcStL K CT s1 D vs t c e ρ ps Q EX ps.length H) : Q (.ref D) H := by
  obtain ⟨s, S, acc, vacc, x, g, hF, r, _, h⟩ := h
  rw [List.drop_length] at h
  have hG : s.G D = none := by rw [← x.g]; exact g1.exG.back hD
  obtain ⟨g', hH, ne⟩ := g.ofFr hG
  have h' : RG K CT (RepW K CT) s (.ok (.loc S.length) (S ++ [.lst ((acc ++ []).map .val)])) Q EX := h
  rw [List.append_nil] at h'
  obtain ⟨g2, x2, e2⟩ := g'.adoptL hF hG hH ne (repWs_val r)
  exact h' _ _ _ x2 g2 ⟨D, e2, rfl⟩
end
section
variable {X : Cx} {CT : CTb} {U : WX} {elt tg iter : Expr} {ifs : List Expr} {scope : Scope} {own : List (Str × Nat)} {pos spos py : Pos} {fi : FI} {t : Tg} {c : FE Bool} {e : FE W} {y : Str}
theorem lcL_go {s1 : Fs} {S1 : Store} {H1 : Hp} {D : Addr} {ρ : Env} {σ : L2.St} {ps : List P} {J : It} {Q : VK} {vs : List Nat} {EX : Value → Option Addr → Hp → Prop} (g1 : Gd X.K CT s1 S1 H1) (en : EnvOk X.K CT s1 ρ σ) (hD : H1 D = none) (hsz : ps.length ≤ 100000) (hsl : ∀ i ∈ slots t, i ∈ vs) (w : WalkP X.K CT s1.F ps J)
    (h : RG X.K CT (RepW X.K CT) s1 ((lcGo vs t c e ρ ps S1).bind fun qs S2 => .ok (.loc S2.length) (S2 ++ [.lst (qs.map .val)])) Q EX) :
    ∃ W : Nat → Nat → Hp → Prop, (∃ m, W 0 m (upd H1 D (.lst []))) ∧ ∀ i m H, W i m H →
      (J.stop i H ∧ Q (.ref D) H) ∨ (J.go i H ∧ ∃ Nx : Hp → Prop, (∀ H', Nx H' → ∃ m', m' < m ∧ W (i + 1) m' H') ∧ ∀ x H', J.yld i H x H' → tgG X.K t x (L2.wipe σ vs) H' fun σ2 H2 => L2.wipe σ2 vs = L2.wipe σ vs ∧ canT X.K CT U0 c σ2 H2 fun b H3 =>
        if b = true then canE X.K CT U0 e σ2 H3 fun y H4 => ∃ acc, H4 D = some (.lst acc) ∧ acc.length < sizeLine ∧ Nx (upd H4 D (.lst (acc ++ [y]))) else Nx H3) := by
  obtain ⟨G, Y, wk, hG, hY⟩ := w
  refine lc_it wk (Qd := fun H => Q (.ref D) H) (fun i H => LcStL X.K CT s1 D vs t c e ρ ps Q EX i H) (lcL_start g1 hD h) (fun i H hi ⟨s, S, acc, vacc, x, g, _⟩ => hG H (x.f.trans g.exF)) ?_ (fun H q => lcL_end g1 hD q)
  rintro i x H H' hi ⟨s, S, acc, vacc, x0, g, hF, r, hl, h⟩ y
  have hGD : s.G D = none := by rw [← x0.g]; exact g1.exG.back hD
  obtain ⟨p, ep, yo⟩ := hY i H x H' hi (x0.f.trans g.exF) y
  rw [lc_turn ep] at h
  obtain ⟨s2', x2', g2', rp'⟩ : ∃ s', Ext (s.fr D (.lst vacc)) s' ∧ Gd X.K CT s' S H' ∧ RepP X.K CT s'.F p x := by
    rcases yo with ⟨rfl, rp⟩ | ⟨T, o, hT, rfl, rp⟩
    · exact ⟨_, Ext.refl _, g, rp.mono x0.f⟩
    · obtain ⟨g', x'⟩ := g.newF hT o
      exact ⟨_, x', g', rp _ (x0.f.trans x'.f) upd_same⟩
  obtain ⟨s2, rfl, x2, hF2⟩ := x2'.unfr2 hGD hF
  have h := RG.ext x2 h
  unfold lcGo at h
  cases eb : bindT t p (wipeE ρ vs) with
  | none => rw [eb] at h; exact h.elim
  | some ρ1 =>
    rw [eb] at h
    have en2 : EnvOk X.K CT (s2.fr D (.lst vacc)) (wipeE ρ vs) (L2.wipe σ vs) := EnvOk.reG (((en.mono x0).mono x2).wipe vs)
    refine bind_ok t (s := s2.fr D (.lst vacc)) g2'.exF rp' en2 eb fun σ2 en3 hw => ⟨(hw vs hsl).trans (wipe_wipe σ vs), ?_⟩
    simp only [RE.bind_bind] at h
    refine ⟨_, S, ρ1, g2', en3, RG.runN h fun b S3 s3' H3 b' er x3 g3 rb h3 => ?_⟩
    have rb : b = b' := rb
    subst rb
    obtain ⟨s3, rfl, x3', hF3⟩ := x3.unfr2 (by rw [← x2.g]; exact hGD) hF2
    have h3 := RG.ext x3' h3
    have ee : RepL X.K CT s3.F acc vacc := r.mono (x2.f.trans x3'.f)
    cases b with
    | false =>
      exact ⟨s3, S3, acc, vacc, (x0.trans x2).trans x3', g3, hF3, ee, Nat.le_succ_of_le hl, by simpa using h3⟩
    | true =>
      simp only [if_true, RE.bind_bind] at h3
      refine ⟨_, S3, ρ1, g3, en3.mono x3, RG.runN h3 fun w S4 s4' H4 yv er4 x4 g4 rw h4 => ?_⟩
      obtain ⟨s4, rfl, x4', hF4⟩ := x4.unfr2 (by rw [← x3'.g, ← x2.g]; exact hGD) hF3
      have h4 := RG.ext x4' h4
      have hG4 : s4.G D = none := by rw [← x4'.g, ← x3'.g, ← x2.g]; exact hGD
      cases ef : frz S4 w with
      | none => unfold doFrz at h4; rw [ef] at h4; exact h4.elim
      | some q =>
        obtain ⟨q, S5⟩ := q
        unfold doFrz at h4
        rw [ef] at h4
        obtain ⟨s5', x5, g5, r5⟩ := frz_ok g4 rw ef
        obtain ⟨s5, rfl, x5', hF5⟩ := x5.unfr2 hG4 hF4
        have h5 := RG.ext x5' h4
        obtain ⟨g5', hD5, ne5⟩ := g5.ofFr (by rw [← x5'.g]; exact hG4)
        have le := (ee.mono (x4'.f.trans x5'.f))
        refine ⟨vacc, hD5, by rw [ee.length]; exact sz5' (by omega), s5, S5, acc ++ [q], vacc ++ [yv], (((x0.trans x2).trans x3').trans x4').trans x5', ?_, hF5, le.append ⟨yv, [], rfl, r5, rfl⟩, by simp; omega, ?_⟩
        · exact g5'.setFr hF5 (by rw [← x5'.g]; exact hG4) ne5 g5.frTab
        · simp only [RE.bind] at h5 ⊢
          simp only [List.append_assoc, List.singleton_append]
          exact h5
theorem zs_setLcL (i : Nat) (hc : X.calm = true) (hN : X.N.Nodup) (hi : PZI X CT U tg iter fi) (ok : BlkOk X.N X.env.scope scope own)
    (hg : ∀ (s : Shared) (H : Hp) (C : Addr) (cl : List (Str × Addr)) (fp : List Addr), PG (X.blk s H scope (compEnvC scope cl C X.env) fp) tg (tgG X.K t)) (ht : ∀ (s : Shared) (H : Hp) (C : Addr) (cl : List (Str × Addr)) (fp : List Addr), PTs (X.blk s H scope (compEnvC scope cl C X.env) fp) ifs (canT X.K CT U0 c))
    (he : ∀ (s : Shared) (H : Hp) (C : Addr) (cl : List (Str × Addr)) (fp : List Addr), PE (X.blk s H scope (compEnvC scope cl C X.env) fp) elt (canE X.K CT U0 e)) (hsl : ∀ i ∈ slots t, i ∈ own.map (·.2)) (hsw : swapsWith (.ListComp elt [⟨tg, iter, ifs, 0⟩] scope pos) (some (.Name y py)) spos.line X.env = pure true)
    (hy : X.N[i]? = some y := by rfl) (hyl : X.env.scope.names.lookup y = some .local := by rfl) (hs : ∀ x, foldedSetIterable iter X.env x = pure x := by intro _; rfl) :
    PZS X CT U (.Assign [.Name y py] (.ListComp elt [⟨tg, iter, ifs, 0⟩] scope pos) spos) (sAsg i (eLcL fi (own.map (·.2)) t c e)) := weakS (ps_setLc hc hN hy hyl hsw hi ok hg ht he hs) fun D σ H ⟨s, S, ρ, gd, en, h⟩ =>
  ⟨s, S, ρ, gd, en, RS.step (r := fi ρ S) (k := fun ps S1 => RE.toR (if ps.length ≤ 100000 then (lcGo (own.map (·.2)) t c e ρ ps S1).bind fun qs S2 => .ok (.loc S2.length) (S2 ++ [.lst (qs.map .val)]) else .bad) ρ fun w S' => .nx (ρ.set i (some w)) S') (by
      unfold sAsg eLcL at h
      cases er : fi ρ S with
      | ok a S => rw [er] at h; exact h
      | ex a S => rw [er] at h; exact h
      | bad => rw [er] at h; exact h) en fun ps S1 s1 H1 J x1 g1 w1 h1 D0 hD => by
    split at h1
    · rename_i hsz
      exact lcL_go g1 (en.mono x1) hD hsz hsl w1 (RS.step h1 (en.mono x1) fun w S2 s2 H2 v x2 g2 r2 h2 => RS.here h2 g2 (((en.mono x1).mono x2).set r2))
    · exact h1.elim⟩
end
def addLO (a b : Option P) (S : Store) : RE W := match a, b with
  | some (.lst ps), some (.lst qs) => if ps.length + qs.length ≤ 100000 then .ok (.loc S.length) (S ++ [.lst ((ps ++ qs).map .val)]) else .bad
  | _, _ => .bad
@[simp] theorem addLW_ap (a b : W) (S : Store) : addLW a b S = addLO (pOf S a) (pOf S b) S := id rfl
@[simp] theorem addLO_ap (ps qs : List P) (S : Store) : addLO (some (.lst ps)) (some (.lst qs)) S = if ps.length + qs.length ≤ 100000 then .ok (.loc S.length) (S ++ [.lst ((ps ++ qs).map .val)]) else .bad := id rfl
@[simp] theorem mulLW_lst (ps : List P) (k : Int) (S : Store) : mulLW (.val (.lst ps)) (.val (.int k)) S = if k < 100000 ∧ -100000 < k ∧ ps.length * k.toNat ≤ 100000 then .ok (.loc S.length) (S ++ [.lst ((List.replicate k.toNat ps).flatten.map .val)]) else .bad := id rfl
@[simp] theorem eLcL_ap (fi : FI) (vs : List Nat) (t : Tg) (c : FE Bool) (e : FE W) (ρ : Env) (S : Store) : eLcL fi vs t c e ρ S = (fi ρ S).bind fun ps S1 => if ps.length ≤ 100000 then (lcGo vs t c e ρ ps S1).bind fun qs S2 => .ok (.loc S2.length) (S2 ++ [.lst (qs.map .val)]) else .bad := id rfl
end Z
end
-- part ZR
section
set_option Elab.async false
set_option linter.all false
set_option maxRecDepth 100000
set_option maxHeartbeats 4000000
/-! # a tuple * 1 -/
namespace L2
open PySem PySem.Spec PyProof.Rows
theorem tuple_mul1 (l : Addr) (items : Array Value) (n : Nat) (dd : Option Addr) (sl : Array (Option Value)) (u : Tok) (c1 : (items.isEmpty || (1 : Int) == 1) = true) :
    Meets (Builtin.«tuple.__mul__» ⟨[.ref l, .int 1 u], []⟩) (fun _ R s => s.heap.get? l = some { cls := .type "tuple", dict := dd, data := .seq items n, slots := sl } ∧
      R (.ok (.ret (Value.ref l))) s) :=
  .of_wp fun prog w A R s h => by
    obtain ⟨hp, g, d, tk, os⟩ := s
    obtain ⟨hl, h⟩ := h
    have f1 := AutoSeq1.idx_int
    have c0 : (decide ((1 : Int) < -(2 ^ 63)) || decide ((1 : Int) ≥ 2 ^ 63)) = false := by decide
    wp_walk using wpAny_loadPart' hl
    repeat (first
      | (refine wpAny_ite_false (decide_eq_false (by rw [c0]; exact Bool.false_ne_true)) ?_; wp_walk using wpAny_loadPart' hl)
      | (refine wpAny_ite_true (decide_eq_true (by rw [c1])) ?_; wp_walk using wpAny_loadPart' hl))
    exact ⟨_, rfl, h⟩
def rRepT1 (K : PySem.W.Frag) : R2 := fun x y H Q => ∃ l xs, x = .ref l ∧ y = .int 1 ∧ SqT K H l xs ∧ Q (.ref l) H
theorem op_repT1 {X : Cx} : OpR X (binaryOp .Mult) (rRepT1 X.K) := by
  intro pins s σ H x y v u Q I rx ry h
  obtain ⟨l, xs, rfl, rfl, hT, q⟩ := h
  cases rx
  obtain ⟨t, rfl⟩ := ry
  obtain ⟨its, r, ⟨⟨cls, dd, data, sl⟩, ho, hc, n, hd⟩, hs⟩ := I.tuple hT
  simp only at hc hd
  subst hc hd
  have c1 : (its.toArray.isEmpty || (1 : Int) == 1) = true := by simp
  refine wpAny_binaryOp_repeat_ref (T := "tuple") (U := "int") (by decide) ⟨_, ho, rfl⟩ (fun s' => typeIs_int s' 1 t) noFill_tuple_mul F.fills_int_mul F.slot_int_rmul repeat_tuple F.slot_int_index.lookup
    (call_meets F.slot_int_rmul (typeIs_int s 1 t) F.entry_int_rmul (F.args_int_rmul_2 _ _) (int_rmul_tuple 1 t l its.toArray n dd sl)
      ⟨ho, rfl, ⟨_, ho, rfl⟩, call_meets F.slot_tuple_mul ⟨_, ho, rfl⟩ F.entry_tuple_mul (F.args_tuple_mul_2 _ _) (tuple_mul1 l its.toArray n dd sl t c1) ⟨ho, ?_⟩⟩)
  exact ⟨.ref l, H, I, rfl, q⟩
end L2
namespace Z
open PySem PySem.Spec PyProof.Rows L2
def mulTW : O2 := fun a b S => match b with
  | .val (.int 1) => match a with
    | .val (.tup ps) => .ok (.val (.tup ps)) S
    | _ => .bad
  | b => mulW a b S
theorem oz_mulT {K : PySem.W.Frag} {CT : CTb} : OpZ K CT (fun x y H Q => rRepT1 K x y H Q ∨ (rI CMul (fun i j => .int (i * j)) x y H Q ∨ (rRep x y H Q ∨ rRepT K x y H Q))) mulTW := by
  intro s S H a b x y Q EX gd ra rb h
  unfold mulTW at h
  split at h
  · split at h
    · rename_i ps
      obtain ⟨l, vs, rfl, t1, l1⟩ := ra
      exact .inl ⟨l, vs, rfl, rb, gd.exF.st t1, RG.here h gd (show RepP K CT s.F (.tup ps) (.ref l) from ⟨l, vs, rfl, t1, l1⟩)⟩
    · exact h.elim
  · exact .inr (oz_mul s S H _ _ _ _ Q EX gd ra rb h)
section
variable {X : Cx} {CT : CTb} {U : WX} {a b c : Expr} {fa fb fc : FE W} {pos : Pos}
theorem pz_mulT (ha : PZ X CT U a fa) (hb : PZ X CT U b fb) : PZ X CT U (.BinOp a .Mult b pos) (eBin mulTW fa fb) := pz_bin (op_repT1.or (op_mul.or (op_rep.or op_repT))) oz_mulT ha hb
end
theorem mulTW_tup (ps : List P) (k : Int) (S : Store) (h1 : 1 ≤ k) (h2 : k ≤ 1000) (hp : 1 ≤ ps.length) (hq : ps.length ≤ 1000) : mulTW (.val (.tup ps)) (.val (.int k)) S = .ok (.val (.tup (List.replicate k.toNat ps).flatten)) S := by
  by_cases e : k = 1
  · subst e
    show RE.ok (W.val (.tup ps)) S = _
    simp
  · have : mulTW (.val (.tup ps)) (.val (.int k)) S = mulW (.val (.tup ps)) (.val (.int k)) S := by
      unfold mulTW
      split
      · rename_i h; cases h; exact (e rfl).elim
      · rfl
    rw [this]
    show (if 2 ≤ k ∧ k ≤ 1000 ∧ 1 ≤ ps.length ∧ ps.length ≤ 1000 then RE.ok (W.val (.tup (List.replicate k.toNat ps).flatten)) S else .bad) = _
    rw [if_pos ⟨by omega, h2, hp, hq⟩]
end Z
end
-- part ZT
section
set_option Elab.async false
set_option linter.all false
set_option maxRecDepth 100000
set_option autoImplicit false
/-! # plain rules of texts -/
namespace Z
open PySem PySem.Spec PyProof.Rows L2
@[simp] theorem lenW_str (S : Store) (x : Str) : lenW [.val (.str x)] S = if x.length ≤ 1000000 then .ok (.val (.int x.length)) S else .bad := by
  simp only [lenW, lenOf]; split <;> rfl
def chP (c : Nat) : P := .str ⟨#[c]⟩
@[simp] theorem itemsW_str (x : Str) (S : Store) : itemsW (.val (.str x)) S = .ok (x.cps.toList.map chP) S := id rfl
@[simp] theorem ixW_str (x : Str) (i : Int) (S : Store) : ixW (.val (.str x)) (.val (.int i)) S = if x.length ≤ 1000000 then orBad ((atI x.cps.toList i).map fun c => W.val (chP c)) S else .bad := id rfl
theorem str_len (w : Str) : w.length = w.cps.toList.length := by simp [Str.length]
theorem str_inj {a b : Str} (h : a.cps.toList = b.cps.toList) : a = b := by
  cases a; cases b; simp at h; simp [h]
theorem inP_str (x z : Str) : inP (.str x) (.str z) = some (!(Builtin.Str.occurrences z x 0 z.length 1).isEmpty) := rfl
/-- a text that is read back as joined -/
theorem str_append_assoc (a b c : Str) : a ++ b ++ c = a ++ (b ++ c) := by
  apply str_inj
  show (Str.append (Str.append a b) c).cps.toList = (Str.append a (Str.append b c)).cps.toList
  simp [Str.append]
theorem str_empty_append (a : Str) : Str.empty ++ a = a := by
  apply str_inj
  show (Str.append Str.empty a).cps.toList = _
  simp [Str.append, Str.empty]
theorem join_nil (y : Str) : Txt.join y [] = Str.empty := by rw [TL.join_eq]; rfl
theorem ixN_nat {n k : Nat} (h : k < n) : ixN n (k : Int) = some k := by
  unfold ixN
  rw [if_pos (by omega), if_pos (by omega)]; simp
theorem cut_from {α : Type} (xs : List α) (k : Nat) : cutA xs (some (k : Int)) none = xs.drop k := by
  unfold cutA
  rw [HT.sIx_nat, HT.sIx_none]
  by_cases h : k ≤ xs.length
  · rw [Nat.min_eq_left h, List.take_of_length_le (by rw [List.length_drop]; exact Nat.le_refl _)]
  · rw [Nat.min_eq_right (by omega), List.drop_length, List.drop_eq_nil_of_le (by omega)]; simp
theorem cut_to {α : Type} (xs : List α) (k : Nat) : cutA xs none (some (k : Int)) = xs.take k := by
  unfold cutA
  rw [HT.sIx_nat, HT.sIx_none]
  simp only [List.drop_zero, Nat.sub_zero]
  by_cases h : k ≤ xs.length
  · rw [Nat.min_eq_left h]
  · rw [Nat.min_eq_right (by omega), List.take_of_length_le (Nat.le_refl _), List.take_of_length_le (by omega)]
theorem cut_from1 {α : Type} (xs : List α) : cutA xs (some 1) none = xs.drop 1 := cut_from xs 1
theorem cut_from2 {α : Type} (xs : List α) : cutA xs (some 2) none = xs.drop 2 := cut_from xs 2
theorem tupleW_loc (n : Nat) (S : Store) : tupleW [.loc n] S = match seqW S (.loc n) with
    | some ws => (doFrzs ws S).bind fun ps S1 => .ok (.val (.tup ps)) S1
    | none => .bad := rfl
theorem doFrzs_map {α : Type} (f : α → P) (xs : List α) (S : Store) : doFrzs (xs.map fun x => .val (f x)) S = .ok (xs.map f) S := by
  have := doFrzs_vals (xs.map f) S
  rwa [List.map_map] at this
@[simp] theorem valAll_strs (ws : List Str) : valAll (ws.map (W.val ∘ P.str)) = some (ws.map .str) := by
  have : ws.map (W.val ∘ P.str) = (ws.map P.str).map .val := by rw [List.map_map]
  rw [this, valAll_ps]
end Z
end
-- part ZO
section
set_option Elab.async false
set_option linter.all false
set_option maxRecDepth 100000
set_option autoImplicit false
/-! # a hook whose fragment holds the interpreter's statics, too -/
namespace Z
open PySem PySem.Spec PyProof.Rows L2
def frZ (n : Nat) (g : Addr → Option Obj) : PySem.W.Frag := He.frT g (cStatics :: He.asD g n)
def obsZ (n : Nat) (fa : List He.Fa) (fn : List He.DefD) (ts : List He.Tab) (tf : List He.Defn) (ex : PySem.W.Frag → Bool) (g : Addr → Option Obj) : He.AlX :=
  (He.obsT fa fn ts (frZ n g), ex (frZ n g) && He.tabsB g tf (frZ n g))
theorem saysZ_of {n : Nat} {fa : List He.Fa} {fn : List He.DefD} {ts : List He.Tab} {tf : List He.Defn} {ex : PySem.W.Frag → Bool} {w : World} {h : Heap} (e : obsZ n fa fn ts tf ex h.get? = He.valX fn ts w) : He.SaysX fa fn ts tf ex w h (frZ n h.get?) := by
  have e1 : He.obsT fa fn ts (frZ n h.get?) = He.valT fn ts w := congrArg (fun z : He.AlX => z.1) e
  have e2 : (ex (frZ n h.get?) && He.tabsB h.get? tf (frZ n h.get?)) = true := congrArg (fun z : He.AlX => z.2) e
  obtain ⟨h1, h2⟩ := Bool.and_eq_true_iff.mp e2
  have key : ∀ p ∈ tf, PySem.W.codeHdIn (frZ n h.get?) (He.cT (frZ n h.get?) p).1 (He.cT (frZ n h.get?) p).2 = true ∧ ∃ o, h.get? (He.cT (frZ n h.get?) p).2 = some o ∧ He.emptyTab o = true := fun p hp => by
    obtain ⟨h3, h4⟩ := Bool.and_eq_true_iff.mp (List.all_eq_true.mp h2 p hp)
    refine ⟨h3, ?_⟩
    split at h4
    · rename_i o q; exact ⟨o, q, h4⟩
    · cases h4
  refine ⟨e1, h1, fun p hp => (key p hp).1, fun p hp => ?_, fun p hp => ?_⟩
  · obtain ⟨_, o, q, z⟩ := key p hp
    exact He.frT_none q z
  · obtain ⟨_, o, q, z⟩ := key p hp
    rw [q, He.emptyTab_eq z]
def hookZ (n : Nat) (fa : List He.Fa) (fn : List He.DefD) (ts : List He.Tab) (tf : List He.Defn) (ex : PySem.W.Frag → Bool) : PySem.W.Hook where
  α := He.AlX
  obs := fun s => obsZ n fa fn ts tf ex s.heap.get?
  val := fun w => He.valX fn ts w
  says := fun w h => ∃ K : PySem.W.Frag, K.In h ∧ He.SaysX fa fn ts tf ex w h K
  of := fun _ _ e => ⟨_, He.frT_in, saysZ_of e⟩
  keeps := fun _ _ _ ⟨K, hK, c⟩ k => ⟨K, PySem.W.Frag.In.keeps hK k, ⟨c.t, c.more, c.hd, c.out, fun p hp => k _ _ (c.empty p hp)⟩⟩
theorem obsZ_eq {n : Nat} {fa : List He.Fa} {fn : List He.DefD} {ts : List He.Tab} {tf : List He.Defn} {ex : PySem.W.Frag → Bool} {g : Addr → Option Obj} {s : Shared} (h : ∀ a, g a = s.heap.get? a) : obsZ n fa fn ts tf ex g = (hookZ n fa fn ts tf ex).obs s := by
  have e : g = s.heap.get? := funext h
  rw [e] <;> rfl
end Z
end
-- part G71M
section
set_option Elab.async false
set_option linter.all false
set_option maxRecDepth 100000
set_option maxHeartbeats 0
set_option autoImplicit false
namespace Gk71
open PySem PySem.Spec PyProof.Rows L2 Z
noncomputable section
def exmL : List ((Str × Str) × Bool) := [(("CoasterError", "CoasterError"), true), (("InvalidText", "CoasterError"), true)]
def exmT (r c : Str) : Option Bool := exmL.lookup (r, c)
def kisL : List ((Str × Str) × Bool) := [(("CoasterError", "InvalidText"), false), (("InvalidText", "InvalidText"), true)]
def kisT (r c : Str) : Option Bool := kisL.lookup (r, c)
/-! _law_draws -/
def m_l_draws_b1 : FS := (sIf (tAndB (tstB (eBin geW (eVar 0) (eBin powW (eCst (.int 10)) (eCst (.int 18))))) (tstB (eBin gtW (eVar 3) (eCst (.int 0))))) (sSeq (sExpr (eBM "list" appendW (eVar 2) (aCons (eBin modW (eCB intW (aCons (eVar 3) aNil)) (eCst (.int 4096))) aNil)))
  (sAsg 3 (eBin fdivW (eVar 3) (eCst (.int 4096))))) (sSeq (sAsg 5 (eBin modW (eCB intW (aCons (eBin addW (eBin mulW (eVar 0) (eCst (.int 48271))) (eBin mulW (eBin addW (eVar 4) (eCst (.int 1))) (eCst (.int 69621)))) aNil)) (eCst (.int 2147483647))))
  (sSeq (sAsg 5 (eBin modW (eCB intW (aCons (eBin addW (eBin addW (eBin mulW (eVar 5) (eVar 5)) (eBin mulW (eVar 5) (eCst (.int 16807)))) (eBin mulW (eVar 4) (eCst (.int 7919)))) aNil)) (eCst (.int 2147483629))))
  (sSeq (sAsg 5 (eBin modW (eCB intW (aCons (eBin addW (eBin addW (eBin mulW (eVar 5) (eVar 5)) (eVar 0)) (eBin mulW (eCst (.int 13)) (eVar 4))) aNil)) (eCst (.int 2147483587))))
  (sExpr (eBM "list" appendW (eVar 2) (aCons (eBin modW (eBin fdivW (eVar 5) (eCst (.int 7))) (eCst (.int 4096))) aNil)))))))
def m_l_draws : List P → Rp := runP 6 (sSeq (sAsg 2 (eLst aNil))
  (sSeq (sAsg 3 (eVar 0))
  (sSeq (sFor (iRange1 (aCons (eVar 1) aNil)) (.nm 4) m_l_draws_b1)
  (sRet (eVar 2)))))
/-! _law_cell -/
def m_l_cell : List P → Rp := runP 2 (sSeq (sIf (tstB (eBin ltW (eVar 1) (eCB lenW (aCons (eVar 0) aNil)))) (sRet (eCB absW (aCons (eCB intW (aCons (eBin ixW (eVar 0) (eVar 1)) aNil)) aNil))) sSkip)
  (sRet (eCst (.int 0))))
/-! _law_like -/
def m_l_like : Nat → List P → Rp
  | 0 => fun _ => .bad
  | j + 1 => runP 3 (sSeq (sIf (tstB (eBin (isW false) (eVar 1) (eCst .non))) (sRet (eBin (isW false) (eVar 0) (eCst .non))) sSkip)
  (sSeq (sIf (tstB (eUn (isiW "bool") (eVar 1))) (sRet (eAnd (eUn (isiW "bool") (eVar 0)) (eBin (eqW false) (eVar 0) (eVar 1)))) sSkip)
  (sSeq (sIf (tstB (eUn (isiW "str") (eVar 1))) (sRet (eAnd (eUn (isiW "str") (eVar 0)) (eBin (eqW false) (eVar 0) (eVar 1)))) sSkip)
  (sSeq (sIf (tstB (eUn (isiW "int") (eVar 1))) (sRet (eAnd (eUn (isiW "int") (eVar 0)) (eAnd (eNot (eUn (isiW "bool") (eVar 0))) (eBin (eqW false) (eVar 0) (eVar 1))))) sSkip)
  (sSeq (sIf (tOrB (tstB (eBin (eqW true) (eUn (isiW "list") (eVar 1)) (eUn (isiW "list") (eVar 0)))) (tstB (eBin (eqW true) (eUn (isiW "tuple") (eVar 1)) (eUn (isiW "tuple") (eVar 0))))) (sRet (eCst (.bl false))) sSkip)
  (sSeq (sIf (tstB (eBin (eqW true) (eCB lenW (aCons (eVar 0) aNil)) (eCB lenW (aCons (eVar 1) aNil)))) (sRet (eCst (.bl false))) sSkip)
  (sRet (eCB (allW true) (aCons (eLc (iRange1 (aCons (eCB lenW (aCons (eVar 1) aNil)) aNil)) [2] (.nm 2) cYes (eCall 2 (m_l_like j) (aCons (eBin ixW (eVar 0) (eVar 2)) (aCons (eBin ixW (eVar 1) (eVar 2)) aNil)))) aNil)))))))))
/-! show_scan -/
def m_show_scan : List P → Rp := runP 10 (sSeq (sAsgT (.tp [(.nm 1), (.nm 2), (.nm 3)]) (eVar 0))
  (sSeq (sAsg 4 (eLcL (iZipA (aCons (eCst (.tup [.str "go", .str "stop", .str "open"])) (aCons (eVar 1) aNil))) [5, 6] (.tp [(.nm 5), (.nm 6)]) (tstB (eBin (eqW false) (eVar 6) (eCst (.int 1)))) (eVar 5)))
  (sSeq (sAsg 7 (eLc (iEnumA (aCons (eVar 2) aNil)) [6, 8] (.tp [(.nm 6), (.nm 8)]) (tstB (eBin (eqW false) (eVar 8) (eCst (.int 1)))) (eCB strW (aCons (eVar 6) aNil))))
  (sSeq (sIf (tstB (eBin gtW (eCB lenW (aCons (eVar 7) aNil)) (eCst (.int 0)))) (sExpr (eBM "list" extendW (eVar 4) (aCons (eBin addW (eLstP (aCons (eCst (.str "late")) aNil)) (eVar 7)) aNil))) sSkip)
  (sSeq (sIf (tstB (eBin (isW true) (eVar 3) (eCst .non))) (sSeq (sAsgT (.tp [(.nm 9), (.nm 6)]) (eVar 3))
  (sExpr (eBM "list" appendW (eVar 4) (aCons (eJs [(eCst (.str "fault ")), (eUn fmtW (eBin ixW (eVar 9) (eCst (.int 0)))), (eCst (.str " ")), (eUn fmtW (eBin ixW (eVar 9) (eCst (.int 1)))), (eCst (.str " ")), (eUn fmtW (eBin ixW (eVar 9) (eCst (.int 2)))), (eCst (.str " ")), (eUn fmtW (eVar 6))]) aNil)))) sSkip)
  (sRet (eIf (tstB (eBin gtW (eCB lenW (aCons (eVar 4) aNil)) (eCst (.int 0)))) (eM1 joinW (eCst (.str " ")) (eVar 4)) (eCst (.str "-")))))))))
/-! format_play -/
def m_format_play : List P → Rp := runP 2 (sRet (eM1 joinW (eCst (.str "\n")) (eLc (iSeq (eVar 0)) [1] (.nm 1) cYes (eCall 1 m_show_scan (aCons (eVar 1) aNil)))))
/-! read_buttons -/
def m_read_buttons_b1 : FS := (sIf (tAndB (tstB (eBin gtW (eCB lenW (aCons (eVar 0) aNil)) (eCst (.int 0)))) (tstB (eBin (eqW false) (eBin ixW (eVar 0) (eCst (.int 0))) (eVar 3)))) (sSeq (sSetI (eVar 1) (eVar 2) (eCst (.int 1)))
  (sAsg 0 (eSl (eVar 0) (pSome (eCst (.int 1))) pNone))) sSkip)
def m_read_buttons : List P → Rp := runP 4 (sSeq (sAsg 1 (eLst (aCons (eCst (.int 0)) (aCons (eCst (.int 0)) (aCons (eCst (.int 0)) aNil)))))
  (sSeq (sFor (iEnumA (aCons (eCst (.tup [.str "go", .str "stop", .str "open"])) aNil)) (.tp [(.nm 2), (.nm 3)]) m_read_buttons_b1)
  (sRet (eTup (aCons (eCB tupleW (aCons (eVar 1) aNil)) (aCons (eVar 0) aNil))))))
/-! is_number -/
def m_is_number : List P → Rp := runP 2 (sSeq (sIf (tOrB (tNotB (tstB (eChain leW leW (eCst (.int 1)) (eCB lenW (aCons (eVar 0) aNil)) (eCst (.int 9))))) (tNotB (tstB (eAG false (iSeq (eVar 0)) [1] (.nm 1) (eBin (inW false) (eVar 1) (eCst (.str "0123456789"))))))) (sRet (eCst (.bl false))) sSkip)
  (sRet (eOr (eBin (eqW false) (eVar 0) (eCst (.str "0"))) (eBin (eqW true) (eBin ixW (eVar 0) (eCst (.int 0))) (eCst (.str "0"))))))
/-! read_late -/
def m_read_late_b1 : FS := (sSeq (sAsg 5 (eCB intTW (aCons (eBin ixW (eVar 0) (eVar 4)) aNil)))
  (sSeq (sIf (tNotB (tstB (eChain ltW ltW (eVar 3) (eVar 5) (eVar 1)))) (sRet (eCst .non)) sSkip)
  (sSeq (sSetI (eVar 2) (eVar 5) (eCst (.int 1)))
  (sSeq (sAsg 3 (eVar 5))
  (sAug 4 iaddW (eCst (.int 1)))))))
def m_read_late : List P → Rp := runP 6 (sSeq (sAsg 2 (eBin mulLW (eLstP (aCons (eCst (.int 0)) aNil)) (eVar 1)))
  (sSeq (sIf (tOrB (tstB (eBin (eqW false) (eCB lenW (aCons (eVar 0) aNil)) (eCst (.int 0)))) (tstB (eBin (eqW true) (eBin ixW (eVar 0) (eCst (.int 0))) (eCst (.str "late"))))) (sRet (eTup (aCons (eCB tupleW (aCons (eVar 2) aNil)) (aCons (eVar 0) aNil)))) sSkip)
  (sSeq (sAsg 3 (eUn negW (eCst (.int 1))))
  (sSeq (sAsg 4 (eCst (.int 1)))
  (sSeq (sWhile (tAndB (tstB (eBin ltW (eVar 4) (eCB lenW (aCons (eVar 0) aNil)))) (tstB (eCall 1 m_is_number (aCons (eBin ixW (eVar 0) (eVar 4)) aNil)))) m_read_late_b1)
  (sRet (eIf (tstB (eBin gtW (eVar 4) (eCst (.int 1)))) (eTup (aCons (eCB tupleW (aCons (eVar 2) aNil)) (aCons (eSl (eVar 0) (pSome (eVar 4)) pNone) aNil))) (eCst .non))))))))
/-! read_numbers -/
def m_read_numbers : List P → Rp := runP 2 (sSeq (sIf (tNotB (tstB (eAG false (iSeq (eVar 0)) [1] (.nm 1) (eCall 1 m_is_number (aCons (eVar 1) aNil))))) (sRet (eCst .non)) sSkip)
  (sRet (eLc (iSeq (eVar 0)) [1] (.nm 1) cYes (eCB intTW (aCons (eVar 1) aNil)))))
/-! read_fault -/
def m_read_fault : List P → Rp := runP 2 (sSeq (sIf (tOrB (tstB (eBin (eqW true) (eCB lenW (aCons (eVar 0) aNil)) (eCst (.int 5)))) (tOrB (tstB (eBin (eqW true) (eBin ixW (eVar 0) (eCst (.int 0))) (eCst (.str "fault")))) (tstB (eBin (inW true) (eBin ixW (eVar 0) (eCst (.int 1))) (eCst (.tup [.str "sensor", .str "present", .str "brake"])))))) (sRet (eCst .non)) sSkip)
  (sSeq (sAsg 1 (eCall 1 m_read_numbers (aCons (eSl (eVar 0) (pSome (eCst (.int 2))) pNone) aNil)))
  (sSeq (sIf (tOrB (tstB (eBin (isW false) (eVar 1) (eCst .non))) (tOrB (tstB (eBin gtW (eBin ixW (eVar 1) (eCst (.int 2))) (eCst (.int 1)))) (tAndB (tstB (eBin (eqW false) (eBin ixW (eVar 0) (eCst (.int 1))) (eCst (.str "present")))) (tstB (eBin gtW (eBin ixW (eVar 1) (eCst (.int 0))) (eCst (.int 0))))))) (sRet (eCst .non)) sSkip)
  (sRet (eTup (aCons (eTup (aCons (eBin ixW (eVar 0) (eCst (.int 1))) (aCons (eBin ixW (eVar 1) (eCst (.int 0))) (aCons (eBin ixW (eVar 1) (eCst (.int 1))) aNil)))) (aCons (eBin ixW (eVar 1) (eCst (.int 2))) aNil)))))))
/-! read_scan -/
def m_read_scan : List P → Rp := runP 7 (sSeq (sIf (tstB (eBin (eqW false) (eVar 0) (eCst (.str "-")))) (sRet (eTup (aCons (eTup (aCons (eCst (.int 0)) (aCons (eCst (.int 0)) (aCons (eCst (.int 0)) aNil)))) (aCons (eBin mulTW (eTup (aCons (eCst (.int 0)) aNil)) (eVar 1)) (aCons (eCst .non) aNil))))) sSkip)
  (sSeq (sAsgT (.tp [(.nm 2), (.nm 3)]) (eCall 1 m_read_buttons (aCons (eM1 splitW (eVar 0) (eCst (.str " "))) aNil)))
  (sSeq (sAsg 4 (eCall 2 m_read_late (aCons (eVar 3) (aCons (eVar 1) aNil))))
  (sSeq (sIf (tstB (eBin (isW false) (eVar 4) (eCst .non))) (sRet (eCst .non)) sSkip)
  (sSeq (sAsgT (.tp [(.nm 5), (.nm 3)]) (eVar 4))
  (sSeq (sIf (tstB (eBin (eqW false) (eCB lenW (aCons (eVar 3) aNil)) (eCst (.int 0)))) (sRet (eTup (aCons (eVar 2) (aCons (eVar 5) (aCons (eCst .non) aNil))))) sSkip)
  (sSeq (sAsg 6 (eCall 1 m_read_fault (aCons (eVar 3) aNil)))
  (sRet (eIf (tstB (eBin (isW false) (eVar 6) (eCst .non))) (eCst .non) (eTup (aCons (eVar 2) (aCons (eVar 5) (aCons (eVar 6) aNil)))))))))))))
/-! parse_play -/
def m_parse_play_b1 : FS := (sSeq (sAsg 4 (eCall 2 m_read_scan (aCons (eVar 3) (aCons (eVar 1) aNil))))
  (sSeq (sIf (tstB (eBin (isW false) (eVar 4) (eCst .non))) (sRaiseV "InvalidText" "line" (eBin addW (eCB lenW (aCons (eVar 2) aNil)) (eCst (.int 1)))) sSkip)
  (sExpr (eBM "list" appendW (eVar 2) (aCons (eVar 4) aNil)))))
def m_parse_play : List P → Rp := runP 5 (sSeq (sIf (tstB (eBin (eqW false) (eVar 0) (eCst (.str "")))) (sRet (eLstP aNil)) sSkip)
  (sSeq (sAsg 2 (eLst aNil))
  (sSeq (sFor (iSeq (eM1 splitW (eVar 0) (eCst (.str "\n")))) (.nm 3) m_parse_play_b1)
  (sRet (eVar 2)))))
/-! _law_told -/
def m_l_told : List P → Rp := runP 3 (sTryAs exmT "CoasterError" 2 (sRet (eCall 2 m_parse_play (aCons (eVar 0) (aCons (eVar 1) aNil)))) (fun xn => (sSeq (sIf (tstB (eXis kisT "InvalidText" xn (eVar 2))) (sRet (eXf "InvalidText" "line" xn (eVar 2))) sSkip)
  (sRet (eUn negW (eCst (.int 1)))))))
/-! _law_equal -/
def m_l_equal : Nat → List P → Rp
  | 0 => fun _ => .bad
  | j + 1 => runP 4 (sSeq (sIf (tOrB (tstB (eBin (eqW true) (eUn (isiW "bool") (eVar 0)) (eUn (isiW "bool") (eVar 1)))) (tOrB (tstB (eBin (eqW true) (eUn (isiW "int") (eVar 0)) (eUn (isiW "int") (eVar 1)))) (tstB (eBin (eqW true) (eUn (isiW "str") (eVar 0)) (eUn (isiW "str") (eVar 1)))))) (sRet (eCst (.bl false))) sSkip)
  (sSeq (sIf (tOrB (tstB (eBin (eqW true) (eUn (isiW "list") (eVar 0)) (eUn (isiW "list") (eVar 1)))) (tOrB (tstB (eBin (eqW true) (eUn (isiW "tuple") (eVar 0)) (eUn (isiW "tuple") (eVar 1)))) (tstB (eBin (eqW true) (eUn (isiW "dict") (eVar 0)) (eUn (isiW "dict") (eVar 1)))))) (sRet (eCst (.bl false))) sSkip)
  (sSeq (sIf (tOrB (tstB (eUn (isiW "list") (eVar 1))) (tstB (eUn (isiW "tuple") (eVar 1)))) (sRet (eAnd (eBin (eqW false) (eCB lenW (aCons (eVar 0) aNil)) (eCB lenW (aCons (eVar 1) aNil))) (eCB (allW true) (aCons (eLc (iRange1 (aCons (eCB lenW (aCons (eVar 1) aNil)) aNil)) [2] (.nm 2) cYes (eCall 2 (m_l_equal j) (aCons (eBin ixW (eVar 0) (eVar 2)) (aCons (eBin ixW (eVar 1) (eVar 2)) aNil)))) aNil)))) sSkip)
  (sSeq (sIf (tstB (eUn (isiW "dict") (eVar 1))) (sRet (eAnd (eBin (eqW false) (eCB lenW (aCons (eVar 0) aNil)) (eCB lenW (aCons (eVar 1) aNil))) (eCB (allW true) (aCons (eLc (iSeq (eVar 1)) [3] (.nm 3) cYes (eAnd (eBin (inW false) (eVar 3) (eVar 0)) (eCall 2 (m_l_equal j) (aCons (eBin ixW (eVar 0) (eVar 3)) (aCons (eBin ixW (eVar 1) (eVar 3)) aNil))))) aNil)))) sSkip)
  (sRet (eBin (isW false) (eBin (eqW false) (eVar 0) (eVar 1)) (eCst (.bl true))))))))
/-! law -/
def m_law_b1 : FS := (sIf (tstB (eBin (eqW false) (eBin ixW (eVar 8) (eVar 10)) (eCst (.int 1)))) (sExpr (eBM "list" appendW (eVar 11) (aCons (eBin ixW (eLstP (aCons (eCst (.str "go")) (aCons (eCst (.str "stop")) (aCons (eCst (.str "open")) aNil)))) (eVar 10)) aNil))) sSkip)
def m_law_b2 : FS := (sSeq (sAsg 7 (eBin ixW (eVar 1) (eVar 6)))
  (sSeq (sAsg 8 (eTup (aCons (eBin modW (eVar 7) (eCst (.int 2))) (aCons (eBin modW (eBin fdivW (eVar 7) (eCst (.int 2))) (eCst (.int 2))) (aCons (eBin modW (eBin fdivW (eVar 7) (eCst (.int 4))) (eCst (.int 2))) aNil)))))
  (sSeq (sAsg 9 (eCB tupleW (aCons (eLc (iRange1 (aCons (eVar 3) aNil)) [10] (.nm 10) cYes (eBin modW (eBin fdivW (eVar 7) (eBin shlW (eCst (.int 8)) (eVar 10))) (eCst (.int 2)))) aNil)))
  (sSeq (sAsg 11 (eLst aNil))
  (sSeq (sFor (iRange1 (aCons (eCst (.int 3)) aNil)) (.nm 10) m_law_b1)
  (sSeq (sIf (tstB (eBin (inW false) (eCst (.int 1)) (eVar 9))) (sAsg 11 (eBin addLW (eBin addW (eVar 11) (eLstP (aCons (eCst (.str "late")) aNil))) (eLc (iRange1 (aCons (eVar 3) aNil)) [10] (.nm 10) (tstB (eBin (eqW false) (eBin ixW (eVar 9) (eVar 10)) (eCst (.int 1)))) (eCB strW (aCons (eVar 10) aNil))))) sSkip)
  (sSeq (sAsg 12 (eCst .non))
  (sSeq (sIf (tstB (eBin (eqW false) (eBin modW (eBin ixW (eVar 1) (eBin addW (eCst (.int 10)) (eVar 6))) (eCst (.int 3))) (eCst (.int 0)))) (sSeq (sAsg 13 (eBin ixW (eLstP (aCons (eCst (.str "sensor")) (aCons (eCst (.str "present")) (aCons (eCst (.str "brake")) aNil)))) (eBin modW (eBin fdivW (eBin ixW (eVar 1) (eBin addW (eCst (.int 10)) (eVar 6))) (eCst (.int 3))) (eCst (.int 3)))))
  (sSeq (sAsg 14 (eBin mulW (eBin modW (eBin fdivW (eBin ixW (eVar 1) (eBin addW (eCst (.int 10)) (eVar 6))) (eCst (.int 9))) (eCst (.int 20))) (eCB intW (aCons (eBin (eqW true) (eVar 13) (eCst (.str "present"))) aNil))))
  (sSeq (sAsg 12 (eTup (aCons (eTup (aCons (eVar 13) (aCons (eVar 14) (aCons (eBin modW (eBin ixW (eVar 1) (eBin addW (eCst (.int 20)) (eVar 6))) (eCst (.int 3))) aNil)))) (aCons (eBin modW (eBin fdivW (eBin ixW (eVar 1) (eBin addW (eCst (.int 20)) (eVar 6))) (eCst (.int 3))) (eCst (.int 2))) aNil))))
  (sAsg 11 (eBin addLW (eVar 11) (eLstP (aCons (eCst (.str "fault")) (aCons (eVar 13) (aCons (eCB strW (aCons (eVar 14) aNil)) (aCons (eCB strW (aCons (eBin ixW (eBin ixW (eVar 12) (eCst (.int 0))) (eCst (.int 2))) aNil)) (aCons (eCB strW (aCons (eBin ixW (eVar 12) (eCst (.int 1))) aNil)) aNil))))))))))) sSkip)
  (sSeq (sExpr (eBM "list" appendW (eVar 4) (aCons (eTup (aCons (eVar 8) (aCons (eVar 9) (aCons (eVar 12) aNil)))) aNil)))
  (sExpr (eBM "list" appendW (eVar 5) (aCons (eBin ixW (eLstP (aCons (eM1 joinW (eCst (.str " ")) (eVar 11)) (aCons (eCst (.str "-")) aNil))) (eCB intW (aCons (eBin (eqW false) (eCB lenW (aCons (eVar 11) aNil)) (eCst (.int 0))) aNil))) aNil))))))))))))
def m_law_b3 : FS := (sIf (tNotB (tstB (eCall 2 (m_l_like 7) (aCons (eCall 2 m_l_told (aCons (eM1 joinW (eCst (.str "\n")) (eLstP (aCons (eVar 19) (aCons (eCst (.str "?")) aNil)))) (aCons (eVar 3) aNil))) (aCons (eCst (.int 1)) aNil))))) (sRet (eCst (.bl false))) sSkip)
def m_law : List P → Rp := runP 22 (sSeq (sAsg 1 (eCall 2 m_l_draws (aCons (eCall 2 m_l_cell (aCons (eVar 0) (aCons (eCst (.int 0)) aNil))) (aCons (eCst (.int 30)) aNil))))
  (sSeq (sAsg 2 (eCall 2 m_l_draws (aCons (eCall 2 m_l_cell (aCons (eVar 0) (aCons (eCst (.int 1)) aNil))) (aCons (eCst (.int 20)) aNil))))
  (sSeq (sAsg 3 (eBin addW (eCst (.int 1)) (eBin modW (eBin ixW (eVar 2) (eCst (.int 0))) (eCst (.int 8)))))
  (sSeq (sAsg 4 (eLst aNil))
  (sSeq (sAsg 5 (eLst aNil))
  (sSeq (sFor (iRange1 (aCons (eBin modW (eBin ixW (eVar 2) (eCst (.int 1))) (eCst (.int 9))) aNil)) (.nm 6) m_law_b2)
  (sSeq (sAsg 15 (eM1 joinW (eCst (.str "\n")) (eVar 5)))
  (sSeq (sAsg 16 (eLc (iSeq (eVar 4)) [17] (.nm 17) cYes (eVar 17)))
  (sSeq (sIf (tOrB (tNotB (tstB (eCall 2 (m_l_like 7) (aCons (eCall 1 m_format_play (aCons (eVar 4) aNil)) (aCons (eVar 15) aNil))))) (tNotB (tstB (eCall 2 (m_l_like 7) (aCons (eCall 2 m_l_told (aCons (eVar 15) (aCons (eVar 3) aNil))) (aCons (eVar 4) aNil)))))) (sRet (eCst (.bl false))) sSkip)
  (sSeq (sIf (tstB (eBin (eqW true) (eLc (iSeq (eVar 4)) [17] (.nm 17) cYes (eVar 17)) (eVar 16))) (sRet (eCst (.bl false))) sSkip)
  (sSeq (sIf (tNotB (tstB (eCall 2 (m_l_like 7) (aCons (eCall 2 m_l_told (aCons (eCst (.str "")) (aCons (eVar 3) aNil))) (aCons (eLstP aNil) aNil))))) (sRet (eCst (.bl false))) sSkip)
  (sSeq (sAsg 18 (eLst (aCons (eCst (.str "stop go")) (aCons (eCst (.str "go go")) (aCons (eCst (.str "late")) (aCons (eBin addW (eCst (.str "late ")) (eCB strW (aCons (eVar 3) aNil))) (aCons (eCst (.str "late 0 0")) (aCons (eCst (.str "late 00")) (aCons (eCst (.str "late x")) (aCons (eCst (.str "go late")) (aCons (eCst (.str "fault")) (aCons (eCst (.str "fault sensor 0 0")) (aCons (eCst (.str "fault sensor 0 0 2")) aNil)))))))))))))
  (sSeq (sAsg 18 (eBin addLW (eVar 18) (eLstP (aCons (eCst (.str "fault present 1 0 1")) (aCons (eCst (.str "fault wheel 0 0 1")) (aCons (eCst (.str "fault brake 0 0 1 1")) (aCons (eCst (.str "fault brake 0 0 1 go")) (aCons (eCst (.str "- go")) (aCons (eCst (.str "go -")) (aCons (eCst (.str "--")) (aCons (eCst (.str "open stop")) (aCons (eCst (.str "Go")) (aCons (eCst (.str "go  stop")) (aCons (eCst (.str " go")) aNil))))))))))))))
  (sSeq (sAsg 18 (eBin addLW (eVar 18) (eLstP (aCons (eCst (.str "late 0 go")) (aCons (eCst (.str "fault sensor 01 0 1")) (aCons (eCst (.str "go ")) (aCons (eCst (.str "late 0  fault brake 0 0 1")) aNil)))))))
  (sSeq (sIf (tstB (eBin gtW (eVar 3) (eCst (.int 1)))) (sExpr (eBM "list" appendW (eVar 18) (aCons (eCst (.str "late 1 0")) aNil))) sSkip)
  (sSeq (sAsg 18 (eBin addLW (eVar 18) (eLstP (aCons (eCst (.str "halt sensor 0 0 1")) (aCons (eCst (.str "go halt brake 0 0 1")) (aCons (eCst (.str "late 0 late 0")) (aCons (eCst (.str "fault brake 0 0 1 fault brake 0 0 1")) aNil)))))))
  (sSeq (sFor (iSeq (eVar 18)) (.nm 19) m_law_b3)
  (sSeq (sAsg 20 (eBin modW (eBin ixW (eVar 2) (eCst (.int 2))) (eBin addW (eCB lenW (aCons (eVar 5) aNil)) (eCst (.int 1)))))
  (sSeq (sAsg 21 (eCall 2 m_l_told (aCons (eM1 joinW (eCst (.str "\n")) (eBin addW (eBin addW (eBin addW (eSl (eVar 5) pNone (pSome (eVar 20))) (eLstP (aCons (eBin ixW (eVar 18) (eBin modW (eBin ixW (eVar 2) (eCst (.int 3))) (eCB lenW (aCons (eVar 18) aNil)))) aNil))) (eSl (eVar 5) (pSome (eVar 20)) pNone)) (eLstP (aCons (eCst (.str "?")) aNil)))) (aCons (eVar 3) aNil))))
  (sSeq (sIf (tOrB (tstB (eUn (isiW "list") (eVar 21))) (tNotB (tstB (eCall 2 (m_l_equal 3) (aCons (eVar 21) (aCons (eBin addW (eVar 20) (eCst (.int 1))) aNil)))))) (sRet (eCst (.bl false))) sSkip)
  (sSeq (sAsg 21 (eCall 2 m_l_told (aCons (eBin addW (eVar 15) (eCst (.str "\n"))) (aCons (eVar 3) aNil))))
  (sRet (eOr (eBin (eqW false) (eCB lenW (aCons (eVar 5) aNil)) (eCst (.int 0))) (eCall 2 (m_l_equal 3) (aCons (eVar 21) (aCons (eBin addW (eCB lenW (aCons (eVar 5) aNil)) (eCst (.int 1))) aNil))))))))))))))))))))))))))
end
end Gk71
end
-- part G71
section
set_option Elab.async false
set_option linter.all false
set_option maxRecDepth 100000
set_option maxHeartbeats 0
set_option autoImplicit false
namespace Gk71
open PySem PySem.Spec PyProof.Rows L2 Z
def top (i : Nat) : Stmt := PySem.Challenge.pw_coastersafe_k71_plays_written_and_read.main.body.getD i (.Pass ⟨0, 0, 0, 0⟩)
abbrev s_l_draws : Stmt := top 21
theorem sc_l_draws : FnScope ["cell", "count", "rows", "left", "k", "mixed"] ["cell", "count"] (defScope s_l_draws) := ⟨rfl, rfl, rfl, by decide +kernel, rfl, by decide +kernel, by decide +kernel⟩
abbrev s_l_cell : Stmt := top 20
theorem sc_l_cell : FnScope ["script", "k"] ["script", "k"] (defScope s_l_cell) := ⟨rfl, rfl, rfl, by decide +kernel, rfl, by decide +kernel, by decide +kernel⟩
abbrev s_l_like : Stmt := top 22
theorem sc_l_like : FnScope ["actual", "due", "k"] ["actual", "due"] (defScope s_l_like) := ⟨rfl, rfl, rfl, by decide +kernel, rfl, by decide +kernel, by decide +kernel⟩
abbrev s_show_scan : Stmt := top 11
theorem sc_show_scan : FnScope ["scan", "buttons", "late", "fault", "words", "word", "number", "slow", "choice", "part"] ["scan"] (defScope s_show_scan) := ⟨rfl, rfl, rfl, by decide +kernel, rfl, by decide +kernel, by decide +kernel⟩
abbrev s_format_play : Stmt := top 12
theorem sc_format_play : FnScope ["scans", "scan"] ["scans"] (defScope s_format_play) := ⟨rfl, rfl, rfl, by decide +kernel, rfl, by decide +kernel, by decide +kernel⟩
abbrev s_read_buttons : Stmt := top 13
theorem sc_read_buttons : FnScope ["words", "buttons", "place", "word"] ["words"] (defScope s_read_buttons) := ⟨rfl, rfl, rfl, by decide +kernel, rfl, by decide +kernel, by decide +kernel⟩
abbrev s_is_number : Stmt := top 6
theorem sc_is_number : FnScope ["word", "sign"] ["word"] (defScope s_is_number) := ⟨rfl, rfl, rfl, by decide +kernel, rfl, by decide +kernel, by decide +kernel⟩
abbrev s_read_late : Stmt := top 14
theorem sc_read_late : FnScope ["words", "trains", "late", "last", "at", "number"] ["words", "trains"] (defScope s_read_late) := ⟨rfl, rfl, rfl, by decide +kernel, rfl, by decide +kernel, by decide +kernel⟩
abbrev s_read_numbers : Stmt := top 10
theorem sc_read_numbers : FnScope ["words", "word"] ["words"] (defScope s_read_numbers) := ⟨rfl, rfl, rfl, by decide +kernel, rfl, by decide +kernel, by decide +kernel⟩
abbrev s_read_fault : Stmt := top 15
theorem sc_read_fault : FnScope ["words", "numbers"] ["words"] (defScope s_read_fault) := ⟨rfl, rfl, rfl, by decide +kernel, rfl, by decide +kernel, by decide +kernel⟩
abbrev s_read_scan : Stmt := top 16
theorem sc_read_scan : FnScope ["line", "trains", "buttons", "words", "found", "late", "fault"] ["line", "trains"] (defScope s_read_scan) := ⟨rfl, rfl, rfl, by decide +kernel, rfl, by decide +kernel, by decide +kernel⟩
abbrev s_parse_play : Stmt := top 17
theorem sc_parse_play : FnScope ["text", "trains", "scans", "line", "scan"] ["text", "trains"] (defScope s_parse_play) := ⟨rfl, rfl, rfl, by decide +kernel, rfl, by decide +kernel, by decide +kernel⟩
abbrev s_l_told : Stmt := top 23
theorem sc_l_told : FnScope ["text", "trains", "e"] ["text", "trains"] (defScope s_l_told) := ⟨rfl, rfl, rfl, by decide +kernel, rfl, by decide +kernel, by decide +kernel⟩
abbrev s_l_equal : Stmt := top 19
theorem sc_l_equal : FnScope ["x", "y", "k", "key"] ["x", "y"] (defScope s_l_equal) := ⟨rfl, rfl, rfl, by decide +kernel, rfl, by decide +kernel, by decide +kernel⟩
abbrev s_law : Stmt := top 24
theorem sc_law : FnScope ["script", "draws", "more", "trains", "scans", "lines", "k", "draw", "buttons", "late", "j", "words", "fault", "kind", "block", "text", "kept_before", "row", "bad", "one", "at", "told"] ["script"] (defScope s_law) := ⟨rfl, rfl, rfl, by decide +kernel, rfl, by decide +kernel, by decide +kernel⟩
def tf : List He.Defn := [("is_number", none), ("read_numbers", none)]
structure Txt (P0 : Program) (K : PySem.W.Frag) (mg : Str → Option Value) : Prop where
  b_range : mg "range" = none
  b_int : mg "int" = none
  f_l_draws : ∃ fd, FunD K "_law_draws" "_law_draws" (defArgs s_l_draws) (defBody s_l_draws) (defScope s_l_draws) [] [] (He.ga K "_law_draws") fd
  g_l_draws : mg "_law_draws" = some (.ref (He.ga K "_law_draws"))
  b_len : mg "len" = none
  b_abs : mg "abs" = none
  f_l_cell : ∃ fd, FunD K "_law_cell" "_law_cell" (defArgs s_l_cell) (defBody s_l_cell) (defScope s_l_cell) [] [] (He.ga K "_law_cell") fd
  g_l_cell : mg "_law_cell" = some (.ref (He.ga K "_law_cell"))
  b_tuple : mg "tuple" = none
  b_str : mg "str" = none
  b_isinstance : mg "isinstance" = none
  b_bool : mg "bool" = none
  b_list : mg "list" = none
  b_all : mg "all" = none
  f_l_like : ∃ fd, FunD K "_law_like" "_law_like" (defArgs s_l_like) (defBody s_l_like) (defScope s_l_like) [] [] (He.ga K "_law_like") fd
  g_l_like : mg "_law_like" = some (.ref (He.ga K "_law_like"))
  g_BUTTONS : mg "BUTTONS" = some (.ref (He.ga K "BUTTONS"))
  c_BUTTONS : GloOk K (ctOf K tf) mg "BUTTONS" (.tup [.str "go", .str "stop", .str "open"])
  b_zip : mg "zip" = none
  b_enumerate : mg "enumerate" = none
  f_show_scan : ∃ fd, FunD K "show_scan" "show_scan" (defArgs s_show_scan) (defBody s_show_scan) (defScope s_show_scan) [] [] (He.ga K "show_scan") fd
  g_show_scan : mg "show_scan" = some (.ref (He.ga K "show_scan"))
  f_format_play : ∃ fd, FunD K "format_play" "format_play" (defArgs s_format_play) (defBody s_format_play) (defScope s_format_play) [] [] (He.ga K "format_play") fd
  g_format_play : mg "format_play" = some (.ref (He.ga K "format_play"))
  f_read_buttons : ∃ fd, FunD K "read_buttons" "read_buttons" (defArgs s_read_buttons) (defBody s_read_buttons) (defScope s_read_buttons) [] [] (He.ga K "read_buttons") fd
  g_read_buttons : mg "read_buttons" = some (.ref (He.ga K "read_buttons"))
  c_MOST_DIGITS : GloOk K (ctOf K tf) mg "MOST_DIGITS" (.int 9)
  c_DIGITS : GloOk K (ctOf K tf) mg "DIGITS" (.str "0123456789")
  f_is_number : ∃ fd, FunD K "is_number" "is_number" (defArgs s_is_number) (defBody s_is_number) (defScope s_is_number) [] [] (He.ga K "is_number") fd
  g_is_number : mg "is_number" = some (.ref (He.ga K "is_number"))
  f_read_late : ∃ fd, FunD K "read_late" "read_late" (defArgs s_read_late) (defBody s_read_late) (defScope s_read_late) [] [] (He.ga K "read_late") fd
  g_read_late : mg "read_late" = some (.ref (He.ga K "read_late"))
  g_PARTS : mg "PARTS" = some (.ref (He.ga K "PARTS"))
  c_PARTS : GloOk K (ctOf K tf) mg "PARTS" (.tup [.str "sensor", .str "present", .str "brake"])
  f_read_numbers : ∃ fd, FunD K "read_numbers" "read_numbers" (defArgs s_read_numbers) (defBody s_read_numbers) (defScope s_read_numbers) [] [] (He.ga K "read_numbers") fd
  g_read_numbers : mg "read_numbers" = some (.ref (He.ga K "read_numbers"))
  f_read_fault : ∃ fd, FunD K "read_fault" "read_fault" (defArgs s_read_fault) (defBody s_read_fault) (defScope s_read_fault) [] [] (He.ga K "read_fault") fd
  g_read_fault : mg "read_fault" = some (.ref (He.ga K "read_fault"))
  f_read_scan : ∃ fd, FunD K "read_scan" "read_scan" (defArgs s_read_scan) (defBody s_read_scan) (defScope s_read_scan) [] [] (He.ga K "read_scan") fd
  g_read_scan : mg "read_scan" = some (.ref (He.ga K "read_scan"))
  g_InvalidText : mg "InvalidText" = some (.ref (He.ga K "InvalidText"))
  b_super : mg "super" = none
  er_InvalidText : errB K "InvalidText" "line" "line" = true
  pf : PFacts P0
  f_parse_play : ∃ fd, FunD K "parse_play" "parse_play" (defArgs s_parse_play) (defBody s_parse_play) (defScope s_parse_play) [] [] (He.ga K "parse_play") fd
  g_parse_play : mg "parse_play" = some (.ref (He.ga K "parse_play"))
  xf_InvalidText_line : xfdB K "InvalidText" "line" = true
  e_CoasterError_CoasterError : PySem.W.exmOne K (.ref (He.ga K "CoasterError")) (.ref (He.ga K "CoasterError")) = some true
  g_CoasterError : mg "CoasterError" = some (.ref (He.ga K "CoasterError"))
  e_InvalidText_CoasterError : PySem.W.exmOne K (.ref (He.ga K "InvalidText")) (.ref (He.ga K "CoasterError")) = some true
  f_l_told : ∃ fd, FunD K "_law_told" "_law_told" (defArgs s_l_told) (defBody s_l_told) (defScope s_l_told) [] [] (He.ga K "_law_told") fd
  g_l_told : mg "_law_told" = some (.ref (He.ga K "_law_told"))
  b_dict : mg "dict" = none
  f_l_equal : ∃ fd, FunD K "_law_equal" "_law_equal" (defArgs s_l_equal) (defBody s_l_equal) (defScope s_l_equal) [] [] (He.ga K "_law_equal") fd
  g_l_equal : mg "_law_equal" = some (.ref (He.ga K "_law_equal"))
  f_law : ∃ fd, FunD K "law" "law" (defArgs s_law) (defBody s_law) (defScope s_law) [] [] (He.ga K "law") fd
  g_law : mg "law" = some (.ref (He.ga K "law"))
  kis : kisB K [(("CoasterError", "InvalidText"), false), (("InvalidText", "InvalidText"), true)] = true
theorem Txt.exm {P0 : Program} {K : PySem.W.Frag} {mg : Str → Option Value} (T : Txt P0 K mg) : ExmF K (ctOf K tf) exmT := by
  intro r c b h
  have hm : ((r, c), b) ∈ exmL := Z.lookup_mem h
  simp only [exmL, List.mem_cons, Prod.mk.injEq, List.not_mem_nil, or_false] at hm
  rcases hm with ⟨⟨rfl, rfl⟩, rfl⟩ | ⟨⟨rfl, rfl⟩, rfl⟩
  · exact T.e_CoasterError_CoasterError
  · exact T.e_InvalidText_CoasterError
theorem Txt.kisF {P0 : Program} {K : PySem.W.Frag} {mg : Str → Option Value} (T : Txt P0 K mg) : KisF K (ctOf K tf) kisT := kis_mk T.kis
section
variable {P0 : Program} {w : World} {K : PySem.W.Frag} {mg : Str → Option Value} {base : Heap}
/-! _law_draws -/
theorem ok_l_draws (T : Txt P0 K mg) (B : TabsOk K mg base tf) : CallF P0 w K mg base (ctOf K tf) "_law_draws" 2 1 m_l_draws := by
  obtain ⟨fd, F⟩ := T.f_l_draws
  exact ⟨_, fd, ["cell", "count"], fn_pure F sc_l_draws (fun cdv A s H E o hr tk po =>
    (zss_cons (zs_set 2 (pz_lst za_nil) sc_l_draws.nd)
    (zss_cons (zs_set 3 (pz_var 0) sc_l_draws.nd)
    (zss_cons (zs_for po rfl (zi_range1 (by rfl) T.b_range (za_cons (pz_var 1) za_nil)) (zg_name 4 sc_l_draws.nd) (zss_one (zs_if (zt_bool (zw_and (zt_cmp op_ge oz_ge (pz_var 0) (pz_pow pz_int pz_int) (nomark _)) (zw_and1 (zt_cmp op_gt oz_gt (pz_var 3) pz_int (nomark _))))) (zss_cons (zs_expr (pz_bm mz_append (pe_bm PySem.F.plainAttrs_list PySem.F.slot_list_append PySem.F.type_list_append mt_append (pz_var 2) (za_cons (pz_mod (pz_int1 (by rfl) T.b_int (za_cons (pz_var 3) za_nil)) pz_int) za_nil))))
    (zss_one (zs_set 3 (pz_fdiv (pz_var 3) pz_int) sc_l_draws.nd))) (zss_cons (zs_set 5 (pz_mod (pz_int1 (by rfl) T.b_int (za_cons (pz_add (pz_mul (pz_var 0) pz_int) (pz_mul (pz_add (pz_var 4) pz_int) pz_int)) za_nil)) pz_int) sc_l_draws.nd)
    (zss_cons (zs_set 5 (pz_mod (pz_int1 (by rfl) T.b_int (za_cons (pz_add (pz_add (pz_mul (pz_var 5) (pz_var 5)) (pz_mul (pz_var 5) pz_int)) (pz_mul (pz_var 4) pz_int)) za_nil)) pz_int) sc_l_draws.nd)
    (zss_cons (zs_set 5 (pz_mod (pz_int1 (by rfl) T.b_int (za_cons (pz_add (pz_add (pz_mul (pz_var 5) (pz_var 5)) (pz_var 0)) (pz_mul pz_int (pz_var 4))) za_nil)) pz_int) sc_l_draws.nd)
    (zss_one (zs_expr (pz_bm mz_append (pe_bm PySem.F.plainAttrs_list PySem.F.slot_list_append PySem.F.type_list_append mt_append (pz_var 2) (za_cons (pz_mod (pz_fdiv (pz_var 5) pz_int) pz_int) za_nil)))))))))))
    (zss_one (zs_ret (pz_var 2))))))), T.g_l_draws, F.kp, F.bindsN (ps := ["cell", "count"]) fun _ _ _ _ _ _ us hl => match us, hl with | [_, _], _ => rfl⟩
/-! _law_cell -/
theorem ok_l_cell (T : Txt P0 K mg) (B : TabsOk K mg base tf) : CallF P0 w K mg base (ctOf K tf) "_law_cell" 2 1 m_l_cell := by
  obtain ⟨fd, F⟩ := T.f_l_cell
  exact ⟨_, fd, ["script", "k"], fn_pure F sc_l_cell (fun cdv A s H E o hr tk po =>
    (zss_cons (zs_if (zt_cmp op_lt oz_lt (pz_var 1) (pz_len (by rfl) T.b_len (za_cons (pz_var 0) za_nil)) (nomark _)) (zss_one (zs_ret (pz_abs (by rfl) T.b_abs (za_cons (pz_int1 (by rfl) T.b_int (za_cons (pz_ix (pz_var 0) (pz_var 1)) za_nil)) za_nil)))) zss_nil)
    (zss_one (zs_ret pz_int)))), T.g_l_cell, F.kp, F.bindsN (ps := ["script", "k"]) fun _ _ _ _ _ _ us hl => match us, hl with | [_, _], _ => rfl⟩
/-! _law_like -/
theorem ok_l_like (T : Txt P0 K mg) (B : TabsOk K mg base tf) : ∀ j, CallF P0 w K mg base (ctOf K tf) "_law_like" 2 (1 + j) (m_l_like j)
  | 0 => by
    obtain ⟨fd, F⟩ := T.f_l_like
    exact ⟨_, fd, ["actual", "due"], fn_bad F sc_l_like, T.g_l_like, F.kp, F.bindsN (ps := ["actual", "due"]) fun _ _ _ _ _ _ us hl => match us, hl with | [_, _], _ => rfl⟩
  | j + 1 => by
    have ih := ok_l_like T B j
    obtain ⟨fd, F⟩ := T.f_l_like
    exact ⟨_, fd, ["actual", "due"], fn_pure F sc_l_like (fun cdv A s H E o hr tk po =>
    (zss_cons (zs_if (zt_cmp op_isZ oz_is (pz_var 1) pz_non (nomark _)) (zss_one (zs_ret (pz_cmp op_isZ oz_is (pz_var 0) pz_non (nomark _)))) zss_nil)
    (zss_cons (zs_if (zt_val (pz_isi kit_bool (by rfl) T.b_isinstance (by rfl) T.b_bool (by decide +kernel) (pz_var 1))) (zss_one (zs_ret (pz_and (pz_isi kit_bool (by rfl) T.b_isinstance (by rfl) T.b_bool (by decide +kernel) (pz_var 0)) (pz_one (pz_eq hr.units (pz_var 0) (pz_var 1)))))) zss_nil)
    (zss_cons (zs_if (zt_val (pz_isi kit_str (by rfl) T.b_isinstance (by rfl) T.b_str (by decide +kernel) (pz_var 1))) (zss_one (zs_ret (pz_and (pz_isi kit_str (by rfl) T.b_isinstance (by rfl) T.b_str (by decide +kernel) (pz_var 0)) (pz_one (pz_eq hr.units (pz_var 0) (pz_var 1)))))) zss_nil)
    (zss_cons (zs_if (zt_val (pz_isi kit_int (by rfl) T.b_isinstance (by rfl) T.b_int (by decide +kernel) (pz_var 1))) (zss_one (zs_ret (pz_and (pz_isi kit_int (by rfl) T.b_isinstance (by rfl) T.b_int (by decide +kernel) (pz_var 0)) (pz_and (pz_not (pz_isi kit_bool (by rfl) T.b_isinstance (by rfl) T.b_bool (by decide +kernel) (pz_var 0))) (pz_one (pz_eq hr.units (pz_var 0) (pz_var 1))))))) zss_nil)
    (zss_cons (zs_if (zt_bool (zw_or (zt_ne hr.units (pz_isi kit_list (by rfl) T.b_isinstance (by rfl) T.b_list (by decide +kernel) (pz_var 1)) (pz_isi kit_list (by rfl) T.b_isinstance (by rfl) T.b_list (by decide +kernel) (pz_var 0))) (zw_or1 (zt_ne hr.units (pz_isi kit_tuple (by rfl) T.b_isinstance (by rfl) T.b_tuple (by decide +kernel) (pz_var 1)) (pz_isi kit_tuple (by rfl) T.b_isinstance (by rfl) T.b_tuple (by decide +kernel) (pz_var 0)))))) (zss_one (zs_ret pz_bl)) zss_nil)
    (zss_cons (zs_if (zt_ne hr.units (pz_len (by rfl) T.b_len (za_cons (pz_var 0) za_nil)) (pz_len (by rfl) T.b_len (za_cons (pz_var 1) za_nil))) (zss_one (zs_ret pz_bl)) zss_nil)
    (zss_one (zs_ret (pz_all rfl (by rfl) T.b_all (za_cons (pz_lc (own := [("k", 2)]) rfl sc_l_like.nd (zi_range1 (by rfl) T.b_range (za_cons (pz_len (by rfl) T.b_len (za_cons (pz_var 1) za_nil)) za_nil)) (blkOk_by (by kernel_rfl)) (fun _ _ _ _ _ => (zg_name 2 sc_l_like.nd)) (fun _ _ _ _ _ => zts_nil) (fun _ _ _ _ _ => (pz_callF ih hr (by show _ ≤ 1 + j; omega) (by rfl) tk0 (za_cons (pz_ix (pz_var 0) (pz_var 2)) (za_cons (pz_ix (pz_var 1) (pz_var 2)) za_nil)))) (by decide)) za_nil))))))))))), T.g_l_like, F.kp, F.bindsN (ps := ["actual", "due"]) fun _ _ _ _ _ _ us hl => match us, hl with | [_, _], _ => rfl⟩
/-! show_scan -/
theorem ok_show_scan (T : Txt P0 K mg) (B : TabsOk K mg base tf) : CallF P0 w K mg base (ctOf K tf) "show_scan" 1 1 m_show_scan := by
  obtain ⟨fd, F⟩ := T.f_show_scan
  exact ⟨_, fd, ["scan"], fn_pure F sc_show_scan (fun cdv A s H E o hr tk po =>
    (zss_cons (zs_asgT (pz_var 0) (zg_tup rfl (zgs_cons (zg_name 1 sc_show_scan.nd) (zgs_cons (zg_name 2 sc_show_scan.nd) (zgs_cons (zg_name 3 sc_show_scan.nd) zgs_nil)))))
    (zss_cons (zs_setLcL 4 (own := [("word", 5), ("number", 6)]) rfl sc_show_scan.nd (zi_zipA (by rfl) T.b_zip (za_cons (pz_glob (by rfl) T.c_BUTTONS) (za_cons (pz_var 1) za_nil))) (blkOk_by (by kernel_rfl)) (fun _ _ _ _ _ => (zg_tup rfl (zgs_cons (zg_name 5 sc_show_scan.nd) (zgs_cons (zg_name 6 sc_show_scan.nd) zgs_nil)))) (fun _ _ _ _ _ => (zts_one (zt_eq hr.units (pz_var 6) pz_int))) (fun _ _ _ _ _ => (pz_var 5)) (by decide) (sw_true rfl rfl rfl (by decide +kernel)))
    (zss_cons (zs_setLc 7 (own := [("number", 6), ("choice", 8)]) rfl sc_show_scan.nd (zi_enumA (by rfl) T.b_enumerate (za_cons (pz_var 2) za_nil)) (blkOk_by (by kernel_rfl)) (fun _ _ _ _ _ => (zg_tup rfl (zgs_cons (zg_name 6 sc_show_scan.nd) (zgs_cons (zg_name 8 sc_show_scan.nd) zgs_nil)))) (fun _ _ _ _ _ => (zts_one (zt_eq hr.units (pz_var 8) pz_int))) (fun _ _ _ _ _ => (pz_str1 (by rfl) T.b_str (za_cons (pz_var 6) za_nil))) (by decide) (sw_true rfl rfl rfl (by decide +kernel)))
    (zss_cons (zs_if (zt_cmp op_gt oz_gt (pz_len (by rfl) T.b_len (za_cons (pz_var 7) za_nil)) pz_int (nomark _)) (zss_one (zs_expr (pz_bm mz_extend (pe_bm PySem.F.plainAttrs_list PySem.F.slot_list_extend PySem.F.type_list_extend mt_extend (pz_var 4) (za_cons (pz_add (pz_lstP (za_cons pz_str za_nil)) (pz_var 7)) za_nil))))) zss_nil)
    (zss_cons (zs_if (zt_cmp op_isnotZ oz_isnot (pz_var 3) pz_non (nomark _)) (zss_cons (zs_asgT (pz_var 3) (zg_tup rfl (zgs_cons (zg_name 9 sc_show_scan.nd) (zgs_cons (zg_name 6 sc_show_scan.nd) zgs_nil))))
    (zss_one (zs_expr (pz_bm mz_append (pe_bm PySem.F.plainAttrs_list PySem.F.slot_list_append PySem.F.type_list_append mt_append (pz_var 4) (za_cons (pz_joined (.cons pz_str (.cons (pz_fmt (pz_ix (pz_var 9) pz_int)) (.cons pz_str (.cons (pz_fmt (pz_ix (pz_var 9) pz_int)) (.cons pz_str (.cons (pz_fmt (pz_ix (pz_var 9) pz_int)) (.cons pz_str (.cons (pz_fmt (pz_var 6)) .nil))))))))) za_nil)))))) zss_nil)
    (zss_one (zs_ret (pz_if (zt_cmp op_gt oz_gt (pz_len (by rfl) T.b_len (za_cons (pz_var 4) za_nil)) pz_int (nomark _)) (pz_join pz_str (pz_var 4)) pz_str))))))))), T.g_show_scan, F.kp, F.bindsN (ps := ["scan"]) fun _ _ _ _ _ _ us hl => match us, hl with | [_], _ => rfl⟩
/-! format_play -/
theorem ok_format_play (T : Txt P0 K mg) (B : TabsOk K mg base tf) : CallF P0 w K mg base (ctOf K tf) "format_play" 1 2 m_format_play := by
  obtain ⟨fd, F⟩ := T.f_format_play
  exact ⟨_, fd, ["scans"], fn_pure F sc_format_play (fun cdv A s H E o hr tk po =>
    (zss_one (zs_ret (pz_join pz_str (pz_lc (own := [("scan", 1)]) rfl sc_format_play.nd (zi_seq (pz_var 0)) (blkOk_by (by kernel_rfl)) (fun _ _ _ _ _ => (zg_name 1 sc_format_play.nd)) (fun _ _ _ _ _ => zts_nil) (fun _ _ _ _ _ => (pz_callF (ok_show_scan T B) hr (by omega) (by rfl) tk0 (za_cons (pz_var 1) za_nil))) (by decide)))))), T.g_format_play, F.kp, F.bindsN (ps := ["scans"]) fun _ _ _ _ _ _ us hl => match us, hl with | [_], _ => rfl⟩
/-! read_buttons -/
theorem ok_read_buttons (T : Txt P0 K mg) (B : TabsOk K mg base tf) : CallF P0 w K mg base (ctOf K tf) "read_buttons" 1 1 m_read_buttons := by
  obtain ⟨fd, F⟩ := T.f_read_buttons
  exact ⟨_, fd, ["words"], fn_pure F sc_read_buttons (fun cdv A s H E o hr tk po =>
    (zss_cons (zs_set 1 (pz_lst (za_cons pz_int (za_cons pz_int (za_cons pz_int za_nil)))) sc_read_buttons.nd)
    (zss_cons (zs_for po rfl (zi_enumA (by rfl) T.b_enumerate (za_cons (pz_glob (by rfl) T.c_BUTTONS) za_nil)) (zg_tup rfl (zgs_cons (zg_name 2 sc_read_buttons.nd) (zgs_cons (zg_name 3 sc_read_buttons.nd) zgs_nil))) (zss_one (zs_if (zt_bool (zw_and (zt_cmp op_gt oz_gt (pz_len (by rfl) T.b_len (za_cons (pz_var 0) za_nil)) pz_int (nomark _)) (zw_and1 (zt_eq hr.units (pz_ix (pz_var 0) pz_int) (pz_var 3))))) (zss_cons (zs_setI (pz_var 1) (pz_var 2) pz_int)
    (zss_one (zs_set 0 (pz_slice (pz_var 0) (zo_some pz_int) zo_none) sc_read_buttons.nd))) zss_nil)))
    (zss_one (zs_ret (pz_tup (za_cons (pz_tuple (by rfl) T.b_tuple (za_cons (pz_var 1) za_nil)) (za_cons (pz_var 0) za_nil)))))))), T.g_read_buttons, F.kp, F.bindsN (ps := ["words"]) fun _ _ _ _ _ _ us hl => match us, hl with | [_], _ => rfl⟩
/-! is_number -/
theorem ok_is_number (T : Txt P0 K mg) (B : TabsOk K mg base tf) : CallF P0 w K mg base (ctOf K tf) "is_number" 1 2 m_is_number := by
  obtain ⟨fd, F⟩ := T.f_is_number
  exact ⟨_, fd, ["word"], fn_pureC (p := ("is_number", none)) F sc_is_number (fun cdv A s H E o hcd hr tk po =>
    (zss_cons (zs_if (zt_bool (zw_or (zt_not (zt_chain op_le oz_le op_le oz_le pz_int (pz_len (by rfl) T.b_len (za_cons (pz_var 0) za_nil)) (pz_glob (by rfl) T.c_MOST_DIGITS))) (zw_or1 (zt_not (zt_val (pz_allG (own := [("sign", 1)]) hr rfl sc_is_number.nd (by rfl) T.b_all (B.at ("is_number", none) (by decide +kernel)) hcd (tab_mem ("is_number", none) (by decide +kernel)) (zi_seq (pz_var 0)) (blkOk_by (by kernel_rfl)) (by decide +kernel) rfl rfl (fun _ _ _ _ _ _ hr => (zg_name 1 sc_is_number.nd)) (fun _ _ _ _ _ _ hr => (pz_cmp or_in (oz_in (neg := false)) (pz_var 1) (pz_glob (by rfl) T.c_DIGITS) rfl)) (by decide))))))) (zss_one (zs_ret pz_bl)) zss_nil)
    (zss_one (zs_ret (pz_or (pz_eq hr.units (pz_var 0) pz_str) (pz_one (pz_ne hr.units (pz_ix (pz_var 0) pz_int) pz_str))))))), T.g_is_number, F.kp, F.bindsN (ps := ["word"]) fun _ _ _ _ _ _ us hl => match us, hl with | [_], _ => rfl⟩
/-! read_late -/
theorem ok_read_late (T : Txt P0 K mg) (B : TabsOk K mg base tf) : CallF P0 w K mg base (ctOf K tf) "read_late" 2 3 m_read_late := by
  obtain ⟨fd, F⟩ := T.f_read_late
  exact ⟨_, fd, ["words", "trains"], fn_pure F sc_read_late (fun cdv A s H E o hr tk po =>
    (zss_cons (zs_set 2 (pz_mulL (pz_lstP (za_cons pz_int za_nil)) (pz_var 1)) sc_read_late.nd)
    (zss_cons (zs_if (zt_bool (zw_or (zt_eq hr.units (pz_len (by rfl) T.b_len (za_cons (pz_var 0) za_nil)) pz_int) (zw_or1 (zt_ne hr.units (pz_ix (pz_var 0) pz_int) pz_str)))) (zss_one (zs_ret (pz_tup (za_cons (pz_tuple (by rfl) T.b_tuple (za_cons (pz_var 2) za_nil)) (za_cons (pz_var 0) za_nil))))) zss_nil)
    (zss_cons (zs_set 3 (pz_neg pz_int) sc_read_late.nd)
    (zss_cons (zs_set 4 pz_int sc_read_late.nd)
    (zss_cons (zs_while po (zt_bool (zw_and (zt_cmp op_lt oz_lt (pz_var 4) (pz_len (by rfl) T.b_len (za_cons (pz_var 0) za_nil)) (nomark _)) (zw_and1 (zt_val (pz_callF (ok_is_number T B) hr (by omega) (by rfl) tk (za_cons (pz_ix (pz_var 0) (pz_var 4)) za_nil)))))) (zss_cons (zs_set 5 (pz_intT (by rfl) T.b_int (za_cons (pz_ix (pz_var 0) (pz_var 4)) za_nil)) sc_read_late.nd)
    (zss_cons (zs_if (zt_not (zt_chain op_lt oz_lt op_lt oz_lt (pz_var 3) (pz_var 5) (pz_var 1))) (zss_one (zs_ret pz_non)) zss_nil)
    (zss_cons (zs_setI (pz_var 2) (pz_var 5) pz_int)
    (zss_cons (zs_set 3 (pz_var 5) sc_read_late.nd)
    (zss_one (zs_aug 4 pz_int ip_add ipz_add sc_read_late.nd)))))))
    (zss_one (zs_ret (pz_if (zt_cmp op_gt oz_gt (pz_var 4) pz_int (nomark _)) (pz_tup (za_cons (pz_tuple (by rfl) T.b_tuple (za_cons (pz_var 2) za_nil)) (za_cons (pz_slice (pz_var 0) (zo_some (pz_var 4)) zo_none) za_nil))) pz_non))))))))), T.g_read_late, F.kp, F.bindsN (ps := ["words", "trains"]) fun _ _ _ _ _ _ us hl => match us, hl with | [_, _], _ => rfl⟩
/-! read_numbers -/
theorem ok_read_numbers (T : Txt P0 K mg) (B : TabsOk K mg base tf) : CallF P0 w K mg base (ctOf K tf) "read_numbers" 1 4 m_read_numbers := by
  obtain ⟨fd, F⟩ := T.f_read_numbers
  exact ⟨_, fd, ["words"], fn_pureC (p := ("read_numbers", none)) F sc_read_numbers (fun cdv A s H E o hcd hr tk po =>
    (zss_cons (zs_if (zt_not (zt_val (pz_allG (own := [("word", 1)]) hr rfl sc_read_numbers.nd (by rfl) T.b_all (B.at ("read_numbers", none) (by decide +kernel)) hcd (tab_mem ("read_numbers", none) (by decide +kernel)) (zi_seq (pz_var 0)) (blkOk_by (by kernel_rfl)) (by decide +kernel) rfl rfl (fun _ _ _ _ _ _ hr => (zg_name 1 sc_read_numbers.nd)) (fun _ _ _ _ _ _ hr => (pz_callF (ok_is_number T B) hr (by omega) (by rfl) tk0 (za_cons (pz_var 1) za_nil))) (by decide)))) (zss_one (zs_ret pz_non)) zss_nil)
    (zss_one (zs_ret (pz_lc (own := [("word", 1)]) rfl sc_read_numbers.nd (zi_seq (pz_var 0)) (blkOk_by (by kernel_rfl)) (fun _ _ _ _ _ => (zg_name 1 sc_read_numbers.nd)) (fun _ _ _ _ _ => zts_nil) (fun _ _ _ _ _ => (pz_intT (by rfl) T.b_int (za_cons (pz_var 1) za_nil))) (by decide)))))), T.g_read_numbers, F.kp, F.bindsN (ps := ["words"]) fun _ _ _ _ _ _ us hl => match us, hl with | [_], _ => rfl⟩
/-! read_fault -/
theorem ok_read_fault (T : Txt P0 K mg) (B : TabsOk K mg base tf) : CallF P0 w K mg base (ctOf K tf) "read_fault" 1 5 m_read_fault := by
  obtain ⟨fd, F⟩ := T.f_read_fault
  exact ⟨_, fd, ["words"], fn_pure F sc_read_fault (fun cdv A s H E o hr tk po =>
    (zss_cons (zs_if (zt_bool (zw_or (zt_ne hr.units (pz_len (by rfl) T.b_len (za_cons (pz_var 0) za_nil)) pz_int) (zw_or (zt_ne hr.units (pz_ix (pz_var 0) pz_int) pz_str) (zw_or1 (zt_cmp or_notin (oz_in (neg := true)) (pz_ix (pz_var 0) pz_int) (pz_glob (by rfl) T.c_PARTS) rfl))))) (zss_one (zs_ret pz_non)) zss_nil)
    (zss_cons (zs_set 1 (pz_callF (ok_read_numbers T B) hr (by omega) (by rfl) tk (za_cons (pz_slice (pz_var 0) (zo_some pz_int) zo_none) za_nil)) sc_read_fault.nd)
    (zss_cons (zs_if (zt_bool (zw_or (zt_cmp op_isZ oz_is (pz_var 1) pz_non (nomark _)) (zw_or (zt_cmp op_gt oz_gt (pz_ix (pz_var 1) pz_int) pz_int (nomark _)) (zw_or1 (zt_bool (zw_and (zt_eq hr.units (pz_ix (pz_var 0) pz_int) pz_str) (zw_and1 (zt_cmp op_gt oz_gt (pz_ix (pz_var 1) pz_int) pz_int (nomark _))))))))) (zss_one (zs_ret pz_non)) zss_nil)
    (zss_one (zs_ret (pz_tup (za_cons (pz_tup (za_cons (pz_ix (pz_var 0) pz_int) (za_cons (pz_ix (pz_var 1) pz_int) (za_cons (pz_ix (pz_var 1) pz_int) za_nil)))) (za_cons (pz_ix (pz_var 1) pz_int) za_nil))))))))), T.g_read_fault, F.kp, F.bindsN (ps := ["words"]) fun _ _ _ _ _ _ us hl => match us, hl with | [_], _ => rfl⟩
/-! read_scan -/
theorem ok_read_scan (T : Txt P0 K mg) (B : TabsOk K mg base tf) : CallF P0 w K mg base (ctOf K tf) "read_scan" 2 6 m_read_scan := by
  obtain ⟨fd, F⟩ := T.f_read_scan
  exact ⟨_, fd, ["line", "trains"], fn_pure F sc_read_scan (fun cdv A s H E o hr tk po =>
    (zss_cons (zs_if (zt_eq hr.units (pz_var 0) pz_str) (zss_one (zs_ret (pz_tup (za_cons (pz_tup (za_cons pz_int (za_cons pz_int (za_cons pz_int za_nil)))) (za_cons (pz_mulT (pz_tup (za_cons pz_int za_nil)) (pz_var 1)) (za_cons pz_non za_nil)))))) zss_nil)
    (zss_cons (zs_asgT (pz_callF (ok_read_buttons T B) hr (by omega) (by rfl) tk (za_cons (pz_split (pz_var 0) pz_str) za_nil)) (zg_tup rfl (zgs_cons (zg_name 2 sc_read_scan.nd) (zgs_cons (zg_name 3 sc_read_scan.nd) zgs_nil))))
    (zss_cons (zs_set 4 (pz_callF (ok_read_late T B) hr (by omega) (by rfl) tk (za_cons (pz_var 3) (za_cons (pz_var 1) za_nil))) sc_read_scan.nd)
    (zss_cons (zs_if (zt_cmp op_isZ oz_is (pz_var 4) pz_non (nomark _)) (zss_one (zs_ret pz_non)) zss_nil)
    (zss_cons (zs_asgT (pz_var 4) (zg_tup rfl (zgs_cons (zg_name 5 sc_read_scan.nd) (zgs_cons (zg_name 3 sc_read_scan.nd) zgs_nil))))
    (zss_cons (zs_if (zt_eq hr.units (pz_len (by rfl) T.b_len (za_cons (pz_var 3) za_nil)) pz_int) (zss_one (zs_ret (pz_tup (za_cons (pz_var 2) (za_cons (pz_var 5) (za_cons pz_non za_nil)))))) zss_nil)
    (zss_cons (zs_set 6 (pz_callF (ok_read_fault T B) hr (by omega) (by rfl) tk (za_cons (pz_var 3) za_nil)) sc_read_scan.nd)
    (zss_one (zs_ret (pz_if (zt_cmp op_isZ oz_is (pz_var 6) pz_non (nomark _)) pz_non (pz_tup (za_cons (pz_var 2) (za_cons (pz_var 5) (za_cons (pz_var 6) za_nil))))))))))))))), T.g_read_scan, F.kp, F.bindsN (ps := ["line", "trains"]) fun _ _ _ _ _ _ us hl => match us, hl with | [_, _], _ => rfl⟩
/-! parse_play -/
theorem ok_parse_play (T : Txt P0 K mg) (B : TabsOk K mg base tf) : CallF P0 w K mg base (ctOf K tf) "parse_play" 2 7 m_parse_play := by
  obtain ⟨fd, F⟩ := T.f_parse_play
  exact ⟨_, fd, ["text", "trains"], fn_pure F sc_parse_play (fun cdv A s H E o hr tk po =>
    (zss_cons (zs_if (zt_eq hr.units (pz_var 0) pz_str) (zss_one (zs_ret (pz_lstP za_nil))) zss_nil)
    (zss_cons (zs_set 2 (pz_lst za_nil) sc_parse_play.nd)
    (zss_cons (zs_for po rfl (zi_seq (pz_split (pz_var 0) pz_str)) (zg_name 3 sc_parse_play.nd) (zss_cons (zs_set 4 (pz_callF (ok_read_scan T B) hr (by omega) (by rfl) tk (za_cons (pz_var 3) (za_cons (pz_var 1) za_nil))) sc_parse_play.nd)
    (zss_cons (zs_if (zt_cmp op_isZ oz_is (pz_var 4) pz_non (nomark _)) (zss_one (zs_raiseV (c := "InvalidText") (fld := "line") (err_mk T.pf T.er_InvalidText T.g_InvalidText T.b_super (by decide)) rfl tk hr (by omega) (by rfl) (pz_add (pz_len (by rfl) T.b_len (za_cons (pz_var 2) za_nil)) pz_int))) zss_nil)
    (zss_one (zs_expr (pz_bm mz_append (pe_bm PySem.F.plainAttrs_list PySem.F.slot_list_append PySem.F.type_list_append mt_append (pz_var 2) (za_cons (pz_var 4) za_nil))))))))
    (zss_one (zs_ret (pz_var 2))))))), T.g_parse_play, F.kp, F.bindsN (ps := ["text", "trains"]) fun _ _ _ _ _ _ us hl => match us, hl with | [_, _], _ => rfl⟩
/-! _law_told -/
theorem ok_l_told (T : Txt P0 K mg) (B : TabsOk K mg base tf) : CallF P0 w K mg base (ctOf K tf) "_law_told" 2 8 m_l_told := by
  obtain ⟨fd, F⟩ := T.f_l_told
  exact ⟨_, fd, ["text", "trains"], fn_pure F sc_l_told (fun cdv A s H E o hr tk po =>
    (zss_one (zs_tryAs (i := 2) T.exm rfl rfl rfl sc_l_told.nd rfl rfl tk (by rfl) T.g_CoasterError (fun W pn xe tkW po => (zss_one (zs_ret (pz_callF (ok_parse_play T B) hr (by omega) (by rfl) tkW (za_cons (pz_var 0) (za_cons (pz_var 1) za_nil)))))) (fun a oe cls dd pn xn hz hd hcl => (zss_cons (zs_if (zt_val (pz_xis T.kisF hz hd hcl (by rfl) T.b_isinstance (by rfl) T.g_InvalidText (pz_var 2))) (zss_one (zs_ret (pz_xf (xfd_ok T.xf_InvalidText_line).1 (xfd_ok T.xf_InvalidText_line).2 hz hd (pz_var 2)))) zss_nil)
    (zss_one (zs_ret (pz_neg pz_int)))))))), T.g_l_told, F.kp, F.bindsN (ps := ["text", "trains"]) fun _ _ _ _ _ _ us hl => match us, hl with | [_, _], _ => rfl⟩
/-! _law_equal -/
theorem ok_l_equal (T : Txt P0 K mg) (B : TabsOk K mg base tf) : ∀ j, CallF P0 w K mg base (ctOf K tf) "_law_equal" 2 (1 + j) (m_l_equal j)
  | 0 => by
    obtain ⟨fd, F⟩ := T.f_l_equal
    exact ⟨_, fd, ["x", "y"], fn_bad F sc_l_equal, T.g_l_equal, F.kp, F.bindsN (ps := ["x", "y"]) fun _ _ _ _ _ _ us hl => match us, hl with | [_, _], _ => rfl⟩
  | j + 1 => by
    have ih := ok_l_equal T B j
    obtain ⟨fd, F⟩ := T.f_l_equal
    exact ⟨_, fd, ["x", "y"], fn_pure F sc_l_equal (fun cdv A s H E o hr tk po =>
    (zss_cons (zs_if (zt_bool (zw_or (zt_ne hr.units (pz_isi kit_bool (by rfl) T.b_isinstance (by rfl) T.b_bool (by decide +kernel) (pz_var 0)) (pz_isi kit_bool (by rfl) T.b_isinstance (by rfl) T.b_bool (by decide +kernel) (pz_var 1))) (zw_or (zt_ne hr.units (pz_isi kit_int (by rfl) T.b_isinstance (by rfl) T.b_int (by decide +kernel) (pz_var 0)) (pz_isi kit_int (by rfl) T.b_isinstance (by rfl) T.b_int (by decide +kernel) (pz_var 1))) (zw_or1 (zt_ne hr.units (pz_isi kit_str (by rfl) T.b_isinstance (by rfl) T.b_str (by decide +kernel) (pz_var 0)) (pz_isi kit_str (by rfl) T.b_isinstance (by rfl) T.b_str (by decide +kernel) (pz_var 1))))))) (zss_one (zs_ret pz_bl)) zss_nil)
    (zss_cons (zs_if (zt_bool (zw_or (zt_ne hr.units (pz_isi kit_list (by rfl) T.b_isinstance (by rfl) T.b_list (by decide +kernel) (pz_var 0)) (pz_isi kit_list (by rfl) T.b_isinstance (by rfl) T.b_list (by decide +kernel) (pz_var 1))) (zw_or (zt_ne hr.units (pz_isi kit_tuple (by rfl) T.b_isinstance (by rfl) T.b_tuple (by decide +kernel) (pz_var 0)) (pz_isi kit_tuple (by rfl) T.b_isinstance (by rfl) T.b_tuple (by decide +kernel) (pz_var 1))) (zw_or1 (zt_ne hr.units (pz_isi kit_dict (by rfl) T.b_isinstance (by rfl) T.b_dict (by decide +kernel) (pz_var 0)) (pz_isi kit_dict (by rfl) T.b_isinstance (by rfl) T.b_dict (by decide +kernel) (pz_var 1))))))) (zss_one (zs_ret pz_bl)) zss_nil)
    (zss_cons (zs_if (zt_bool (zw_or (zt_val (pz_isi kit_list (by rfl) T.b_isinstance (by rfl) T.b_list (by decide +kernel) (pz_var 1))) (zw_or1 (zt_val (pz_isi kit_tuple (by rfl) T.b_isinstance (by rfl) T.b_tuple (by decide +kernel) (pz_var 1)))))) (zss_one (zs_ret (pz_and (pz_eq hr.units (pz_len (by rfl) T.b_len (za_cons (pz_var 0) za_nil)) (pz_len (by rfl) T.b_len (za_cons (pz_var 1) za_nil))) (pz_one (pz_all rfl (by rfl) T.b_all (za_cons (pz_lc (own := [("k", 2)]) rfl sc_l_equal.nd (zi_range1 (by rfl) T.b_range (za_cons (pz_len (by rfl) T.b_len (za_cons (pz_var 1) za_nil)) za_nil)) (blkOk_by (by kernel_rfl)) (fun _ _ _ _ _ => (zg_name 2 sc_l_equal.nd)) (fun _ _ _ _ _ => zts_nil) (fun _ _ _ _ _ => (pz_callF ih hr (by show _ ≤ 1 + j; omega) (by rfl) tk0 (za_cons (pz_ix (pz_var 0) (pz_var 2)) (za_cons (pz_ix (pz_var 1) (pz_var 2)) za_nil)))) (by decide)) za_nil)))))) zss_nil)
    (zss_cons (zs_if (zt_val (pz_isi kit_dict (by rfl) T.b_isinstance (by rfl) T.b_dict (by decide +kernel) (pz_var 1))) (zss_one (zs_ret (pz_and (pz_eq hr.units (pz_len (by rfl) T.b_len (za_cons (pz_var 0) za_nil)) (pz_len (by rfl) T.b_len (za_cons (pz_var 1) za_nil))) (pz_one (pz_all rfl (by rfl) T.b_all (za_cons (pz_lc (own := [("key", 3)]) rfl sc_l_equal.nd (zi_seq (pz_var 1)) (blkOk_by (by kernel_rfl)) (fun _ _ _ _ _ => (zg_name 3 sc_l_equal.nd)) (fun _ _ _ _ _ => zts_nil) (fun _ _ _ _ _ => (pz_and (pz_cmp or_in (oz_in (neg := false)) (pz_var 3) (pz_var 0) rfl) (pz_one (pz_callF ih hr (by show _ ≤ 1 + j; omega) (by rfl) tk0 (za_cons (pz_ix (pz_var 0) (pz_var 3)) (za_cons (pz_ix (pz_var 1) (pz_var 3)) za_nil)))))) (by decide)) za_nil)))))) zss_nil)
    (zss_one (zs_ret (pz_cmp op_isZ oz_is (pz_eq hr.units (pz_var 0) (pz_var 1)) pz_bl (nomark _))))))))), T.g_l_equal, F.kp, F.bindsN (ps := ["x", "y"]) fun _ _ _ _ _ _ us hl => match us, hl with | [_, _], _ => rfl⟩
/-! law -/
theorem ok_law (T : Txt P0 K mg) : ∃ fd, (∀ (s : Shared) (v : Value), BindsTo s fd ⟨[v], []⟩ [("script", v)]) ∧ ∀ base : Heap, TabsOk K mg base tf → FnOk P0 w K mg base (L2.CX P0 w) 9 (He.ga K "law") fd ["script"] (spP K (ctOf K tf) 1 m_law) := by
  obtain ⟨fd, F⟩ := T.f_law
  exact ⟨fd, fun s v => F.bindsA (ps := ["script"]) (fun _ _ _ _ _ _ us hl => match us, hl with | [_], _ => rfl) s [v] rfl, fun base B => fn_pure F sc_law (fun cdv A s H E o hr tk po =>
    (zss_cons (zs_set 1 (pz_callF (ok_l_draws T B) hr (by omega) (by rfl) tk (za_cons (pz_callF (ok_l_cell T B) hr (by omega) (by rfl) tk (za_cons (pz_var 0) (za_cons pz_int za_nil))) (za_cons pz_int za_nil))) sc_law.nd)
    (zss_cons (zs_set 2 (pz_callF (ok_l_draws T B) hr (by omega) (by rfl) tk (za_cons (pz_callF (ok_l_cell T B) hr (by omega) (by rfl) tk (za_cons (pz_var 0) (za_cons pz_int za_nil))) (za_cons pz_int za_nil))) sc_law.nd)
    (zss_cons (zs_set 3 (pz_add pz_int (pz_mod (pz_ix (pz_var 2) pz_int) pz_int)) sc_law.nd)
    (zss_cons (zs_set 4 (pz_lst za_nil) sc_law.nd)
    (zss_cons (zs_set 5 (pz_lst za_nil) sc_law.nd)
    (zss_cons (zs_for po rfl (zi_range1 (by rfl) T.b_range (za_cons (pz_mod (pz_ix (pz_var 2) pz_int) pz_int) za_nil)) (zg_name 6 sc_law.nd) (zss_cons (zs_set 7 (pz_ix (pz_var 1) (pz_var 6)) sc_law.nd)
    (zss_cons (zs_set 8 (pz_tup (za_cons (pz_mod (pz_var 7) pz_int) (za_cons (pz_mod (pz_fdiv (pz_var 7) pz_int) pz_int) (za_cons (pz_mod (pz_fdiv (pz_var 7) pz_int) pz_int) za_nil)))) sc_law.nd)
    (zss_cons (zs_set 9 (pz_tuple (by rfl) T.b_tuple (za_cons (pz_lc (own := [("j", 10)]) rfl sc_law.nd (zi_range1 (by rfl) T.b_range (za_cons (pz_var 3) za_nil)) (blkOk_by (by kernel_rfl)) (fun _ _ _ _ _ => (zg_name 10 sc_law.nd)) (fun _ _ _ _ _ => zts_nil) (fun _ _ _ _ _ => (pz_mod (pz_fdiv (pz_var 7) (pz_shl pz_int (pz_var 10))) pz_int)) (by decide)) za_nil)) sc_law.nd)
    (zss_cons (zs_set 11 (pz_lst za_nil) sc_law.nd)
    (zss_cons (zs_for po rfl (zi_range1 (by rfl) T.b_range (za_cons pz_int za_nil)) (zg_name 10 sc_law.nd) (zss_one (zs_if (zt_eq hr.units (pz_ix (pz_var 8) (pz_var 10)) pz_int) (zss_one (zs_expr (pz_bm mz_append (pe_bm PySem.F.plainAttrs_list PySem.F.slot_list_append PySem.F.type_list_append mt_append (pz_var 11) (za_cons (pz_ix (pz_lstP (za_cons pz_str (za_cons pz_str (za_cons pz_str za_nil)))) (pz_var 10)) za_nil))))) zss_nil)))
    (zss_cons (zs_if (zt_cmp or_in (oz_in (neg := false)) pz_int (pz_var 9) rfl) (zss_one (zs_set 11 (pz_addL (pz_add (pz_var 11) (pz_lstP (za_cons pz_str za_nil))) (pz_lc (own := [("j", 10)]) rfl sc_law.nd (zi_range1 (by rfl) T.b_range (za_cons (pz_var 3) za_nil)) (blkOk_by (by kernel_rfl)) (fun _ _ _ _ _ => (zg_name 10 sc_law.nd)) (fun _ _ _ _ _ => (zts_one (zt_eq hr.units (pz_ix (pz_var 9) (pz_var 10)) pz_int))) (fun _ _ _ _ _ => (pz_str1 (by rfl) T.b_str (za_cons (pz_var 10) za_nil))) (by decide))) sc_law.nd)) zss_nil)
    (zss_cons (zs_set 12 pz_non sc_law.nd)
    (zss_cons (zs_if (zt_eq hr.units (pz_mod (pz_ix (pz_var 1) (pz_add pz_int (pz_var 6))) pz_int) pz_int) (zss_cons (zs_set 13 (pz_ix (pz_lstP (za_cons pz_str (za_cons pz_str (za_cons pz_str za_nil)))) (pz_mod (pz_fdiv (pz_ix (pz_var 1) (pz_add pz_int (pz_var 6))) pz_int) pz_int)) sc_law.nd)
    (zss_cons (zs_set 14 (pz_mul (pz_mod (pz_fdiv (pz_ix (pz_var 1) (pz_add pz_int (pz_var 6))) pz_int) pz_int) (pz_int1 (by rfl) T.b_int (za_cons (pz_ne hr.units (pz_var 13) pz_str) za_nil))) sc_law.nd)
    (zss_cons (zs_set 12 (pz_tup (za_cons (pz_tup (za_cons (pz_var 13) (za_cons (pz_var 14) (za_cons (pz_mod (pz_ix (pz_var 1) (pz_add pz_int (pz_var 6))) pz_int) za_nil)))) (za_cons (pz_mod (pz_fdiv (pz_ix (pz_var 1) (pz_add pz_int (pz_var 6))) pz_int) pz_int) za_nil))) sc_law.nd)
    (zss_one (zs_set 11 (pz_addL (pz_var 11) (pz_lstP (za_cons pz_str (za_cons (pz_var 13) (za_cons (pz_str1 (by rfl) T.b_str (za_cons (pz_var 14) za_nil)) (za_cons (pz_str1 (by rfl) T.b_str (za_cons (pz_ix (pz_ix (pz_var 12) pz_int) pz_int) za_nil)) (za_cons (pz_str1 (by rfl) T.b_str (za_cons (pz_ix (pz_var 12) pz_int) za_nil)) za_nil))))))) sc_law.nd))))) zss_nil)
    (zss_cons (zs_expr (pz_bm mz_append (pe_bm PySem.F.plainAttrs_list PySem.F.slot_list_append PySem.F.type_list_append mt_append (pz_var 4) (za_cons (pz_tup (za_cons (pz_var 8) (za_cons (pz_var 9) (za_cons (pz_var 12) za_nil)))) za_nil))))
    (zss_one (zs_expr (pz_bm mz_append (pe_bm PySem.F.plainAttrs_list PySem.F.slot_list_append PySem.F.type_list_append mt_append (pz_var 5) (za_cons (pz_ix (pz_lstP (za_cons (pz_join pz_str (pz_var 11)) (za_cons pz_str za_nil))) (pz_int1 (by rfl) T.b_int (za_cons (pz_eq hr.units (pz_len (by rfl) T.b_len (za_cons (pz_var 11) za_nil)) pz_int) za_nil))) za_nil)))))))))))))))
    (zss_cons (zs_set 15 (pz_join pz_str (pz_var 5)) sc_law.nd)
    (zss_cons (zs_setLc 16 (own := [("row", 17)]) rfl sc_law.nd (zi_seq (pz_var 4)) (blkOk_by (by kernel_rfl)) (fun _ _ _ _ _ => (zg_name 17 sc_law.nd)) (fun _ _ _ _ _ => zts_nil) (fun _ _ _ _ _ => (pz_var 17)) (by decide) (sw_true rfl rfl rfl (by decide +kernel)))
    (zss_cons (zs_if (zt_bool (zw_or (zt_not (zt_val (pz_callF (ok_l_like T B 7) hr (by omega) (by rfl) tk (za_cons (pz_callF (ok_format_play T B) hr (by omega) (by rfl) tk (za_cons (pz_var 4) za_nil)) (za_cons (pz_var 15) za_nil))))) (zw_or1 (zt_not (zt_val (pz_callF (ok_l_like T B 7) hr (by omega) (by rfl) tk (za_cons (pz_callF (ok_l_told T B) hr (by omega) (by rfl) tk (za_cons (pz_var 15) (za_cons (pz_var 3) za_nil))) (za_cons (pz_var 4) za_nil)))))))) (zss_one (zs_ret pz_bl)) zss_nil)
    (zss_cons (zs_if (zt_ne hr.units (pz_lc (own := [("row", 17)]) rfl sc_law.nd (zi_seq (pz_var 4)) (blkOk_by (by kernel_rfl)) (fun _ _ _ _ _ => (zg_name 17 sc_law.nd)) (fun _ _ _ _ _ => zts_nil) (fun _ _ _ _ _ => (pz_var 17)) (by decide)) (pz_var 16)) (zss_one (zs_ret pz_bl)) zss_nil)
    (zss_cons (zs_if (zt_not (zt_val (pz_callF (ok_l_like T B 7) hr (by omega) (by rfl) tk (za_cons (pz_callF (ok_l_told T B) hr (by omega) (by rfl) tk (za_cons pz_str (za_cons (pz_var 3) za_nil))) (za_cons (pz_lstP za_nil) za_nil))))) (zss_one (zs_ret pz_bl)) zss_nil)
    (zss_cons (zs_set 18 (pz_lst (za_cons pz_str (za_cons pz_str (za_cons pz_str (za_cons (pz_add pz_str (pz_str1 (by rfl) T.b_str (za_cons (pz_var 3) za_nil))) (za_cons pz_str (za_cons pz_str (za_cons pz_str (za_cons pz_str (za_cons pz_str (za_cons pz_str (za_cons pz_str za_nil)))))))))))) sc_law.nd)
    (zss_cons (zs_set 18 (pz_addL (pz_var 18) (pz_lstP (za_cons pz_str (za_cons pz_str (za_cons pz_str (za_cons pz_str (za_cons pz_str (za_cons pz_str (za_cons pz_str (za_cons pz_str (za_cons pz_str (za_cons pz_str (za_cons pz_str za_nil))))))))))))) sc_law.nd)
    (zss_cons (zs_set 18 (pz_addL (pz_var 18) (pz_lstP (za_cons pz_str (za_cons pz_str (za_cons pz_str (za_cons pz_str za_nil)))))) sc_law.nd)
    (zss_cons (zs_if (zt_cmp op_gt oz_gt (pz_var 3) pz_int (nomark _)) (zss_one (zs_expr (pz_bm mz_append (pe_bm PySem.F.plainAttrs_list PySem.F.slot_list_append PySem.F.type_list_append mt_append (pz_var 18) (za_cons pz_str za_nil))))) zss_nil)
    (zss_cons (zs_set 18 (pz_addL (pz_var 18) (pz_lstP (za_cons pz_str (za_cons pz_str (za_cons pz_str (za_cons pz_str za_nil)))))) sc_law.nd)
    (zss_cons (zs_for po rfl (zi_seq (pz_var 18)) (zg_name 19 sc_law.nd) (zss_one (zs_if (zt_not (zt_val (pz_callF (ok_l_like T B 7) hr (by omega) (by rfl) tk (za_cons (pz_callF (ok_l_told T B) hr (by omega) (by rfl) tk (za_cons (pz_join pz_str (pz_lstP (za_cons (pz_var 19) (za_cons pz_str za_nil)))) (za_cons (pz_var 3) za_nil))) (za_cons pz_int za_nil))))) (zss_one (zs_ret pz_bl)) zss_nil)))
    (zss_cons (zs_set 20 (pz_mod (pz_ix (pz_var 2) pz_int) (pz_add (pz_len (by rfl) T.b_len (za_cons (pz_var 5) za_nil)) pz_int)) sc_law.nd)
    (zss_cons (zs_set 21 (pz_callF (ok_l_told T B) hr (by omega) (by rfl) tk (za_cons (pz_join pz_str (pz_add (pz_add (pz_add (pz_slice (pz_var 5) zo_none (zo_some (pz_var 20))) (pz_lstP (za_cons (pz_ix (pz_var 18) (pz_mod (pz_ix (pz_var 2) pz_int) (pz_len (by rfl) T.b_len (za_cons (pz_var 18) za_nil)))) za_nil))) (pz_slice (pz_var 5) (zo_some (pz_var 20)) zo_none)) (pz_lstP (za_cons pz_str za_nil)))) (za_cons (pz_var 3) za_nil))) sc_law.nd)
    (zss_cons (zs_if (zt_bool (zw_or (zt_val (pz_isi kit_list (by rfl) T.b_isinstance (by rfl) T.b_list (by decide +kernel) (pz_var 21))) (zw_or1 (zt_not (zt_val (pz_callF (ok_l_equal T B 3) hr (by omega) (by rfl) tk (za_cons (pz_var 21) (za_cons (pz_add (pz_var 20) pz_int) za_nil)))))))) (zss_one (zs_ret pz_bl)) zss_nil)
    (zss_cons (zs_set 21 (pz_callF (ok_l_told T B) hr (by omega) (by rfl) tk (za_cons (pz_add (pz_var 15) pz_str) (za_cons (pz_var 3) za_nil))) sc_law.nd)
    (zss_one (zs_ret (pz_or (pz_eq hr.units (pz_len (by rfl) T.b_len (za_cons (pz_var 5) za_nil)) pz_int) (pz_one (pz_callF (ok_l_equal T B 3) hr (by omega) (by rfl) tk (za_cons (pz_var 21) (za_cons (pz_add (pz_len (by rfl) T.b_len (za_cons (pz_var 5) za_nil)) pz_int) za_nil)))))))))))))))))))))))))))))⟩
end
end Gk71
end
-- part G71Head
section
set_option Elab.async false
set_option linter.all false
set_option maxRecDepth 100000
set_option maxHeartbeats 0
namespace Gk71
open PySem PySem.Spec PyProof.Rows L2 Z
def d0 : He.DefD := ⟨("_law_draws", none), "_law_draws", "_law_draws", defArgs s_l_draws, defBody s_l_draws, defScope s_l_draws, [], []⟩
def d1 : He.DefD := ⟨("_law_cell", none), "_law_cell", "_law_cell", defArgs s_l_cell, defBody s_l_cell, defScope s_l_cell, [], []⟩
def d2 : He.DefD := ⟨("_law_like", none), "_law_like", "_law_like", defArgs s_l_like, defBody s_l_like, defScope s_l_like, [], []⟩
def d3 : He.DefD := ⟨("show_scan", none), "show_scan", "show_scan", defArgs s_show_scan, defBody s_show_scan, defScope s_show_scan, [], []⟩
def d4 : He.DefD := ⟨("format_play", none), "format_play", "format_play", defArgs s_format_play, defBody s_format_play, defScope s_format_play, [], []⟩
def d5 : He.DefD := ⟨("read_buttons", none), "read_buttons", "read_buttons", defArgs s_read_buttons, defBody s_read_buttons, defScope s_read_buttons, [], []⟩
def d6 : He.DefD := ⟨("is_number", none), "is_number", "is_number", defArgs s_is_number, defBody s_is_number, defScope s_is_number, [], []⟩
def d7 : He.DefD := ⟨("read_late", none), "read_late", "read_late", defArgs s_read_late, defBody s_read_late, defScope s_read_late, [], []⟩
def d8 : He.DefD := ⟨("read_numbers", none), "read_numbers", "read_numbers", defArgs s_read_numbers, defBody s_read_numbers, defScope s_read_numbers, [], []⟩
def d9 : He.DefD := ⟨("read_fault", none), "read_fault", "read_fault", defArgs s_read_fault, defBody s_read_fault, defScope s_read_fault, [], []⟩
def d10 : He.DefD := ⟨("read_scan", none), "read_scan", "read_scan", defArgs s_read_scan, defBody s_read_scan, defScope s_read_scan, [], []⟩
def d11 : He.DefD := ⟨("parse_play", none), "parse_play", "parse_play", defArgs s_parse_play, defBody s_parse_play, defScope s_parse_play, [], []⟩
def d12 : He.DefD := ⟨("_law_told", none), "_law_told", "_law_told", defArgs s_l_told, defBody s_l_told, defScope s_l_told, [], []⟩
def d13 : He.DefD := ⟨("_law_equal", none), "_law_equal", "_law_equal", defArgs s_l_equal, defBody s_l_equal, defScope s_l_equal, [], []⟩
def d14 : He.DefD := ⟨("law", none), "law", "law", defArgs s_law, defBody s_law, defScope s_law, [], []⟩
def fn0 : List He.DefD := [d0, d1, d2, d3, d4, d5, d6, d7, d8, d9, d10, d11]
def fn1 : List He.DefD := [d12, d13, d14]
def fn : List He.DefD := fn0 ++ fn1
def fa0 : List He.Fa := [.free "range", .free "int", .glo "_law_draws", .free "len", .free "abs", .glo "_law_cell", .free "tuple", .free "str", .free "isinstance", .free "bool", .free "list", .free "all"]
def fa1 : List He.Fa := [.glo "_law_like", .glo "BUTTONS", .free "zip", .free "enumerate", .glo "show_scan", .glo "format_play", .glo "read_buttons", .int "MOST_DIGITS" 9, .str "DIGITS" "0123456789", .glo "is_number", .glo "read_late", .glo "PARTS"]
def fa2 : List He.Fa := [.glo "read_numbers", .glo "read_fault", .glo "read_scan", .glo "InvalidText", .free "super", .glo "parse_play", .exm "CoasterError" "CoasterError" true, .glo "CoasterError", .exm "InvalidText" "CoasterError" true, .glo "_law_told", .free "dict", .glo "_law_equal"]
def fa3 : List He.Fa := [.glo "law"]
def fa : List He.Fa := fa0 ++ fa1 ++ fa2 ++ fa3
def names0 : List Str := ["__name__", "CoasterError", "InvalidText", "MOST_DIGITS", "DIGITS", "is_number", "BUTTONS", "PARTS", "read_numbers", "show_scan", "format_play", "read_buttons"]
def names1 : List Str := ["read_late", "read_fault", "read_scan", "parse_play", "_law_equal", "_law_cell", "_law_draws", "_law_like", "_law_told"]
def names : List Str := names0 ++ names1
def mo (K : PySem.W.Frag) : Bool := (He.tupB K "BUTTONS" [.str "go", .str "stop", .str "open"]) && (He.tupB K "PARTS" [.str "sensor", .str "present", .str "brake"]) && (errB K "InvalidText" "line" "line") && (xfdB K "InvalidText" "line") && (kisB K [(("CoasterError", "InvalidText"), false), (("InvalidText", "InvalidText"), true)])
abbrev R : PySem.W.OpenRow := PySem.W.OpenLaw.row PySem.Challenge.rw_coastersafe_k71_plays_written_and_read
abbrev hk : PySem.W.Hook := Z.hookZ 4 fa fn [] tf mo
def ob (s : PySem.W.SharedT) : He.AlX := Z.obsZ 4 fa fn [] tf mo (HandSHeadRun.getT s)
theorem ob_eq (s : PySem.W.SharedT) : ob s = hk.obs s.abs := Z.obsZ_eq (HandSHeadRun.getT_eq s)
theorem run (w : World) : HandSHeadRun.RunEq R (PySem.W.view R.prog [24]) hk ob 8000 names w := by
  intro os
  kernel_rfl
theorem txt {K : PySem.W.Frag} {h : Heap} {mg : Str → Option Value} (X : K.In h) (G : h.Ns mainGlobals mg) {w : World} (cx : He.SaysX fa fn [] tf mo w h K) : Txt (PySem.W.OpenLaw.row PySem.Challenge.rw_coastersafe_k71_plays_written_and_read).prog K mg := by
  have c := cx.t.d
  have hmo : (He.tupB K "BUTTONS" [.str "go", .str "stop", .str "open"]) = true ∧ (He.tupB K "PARTS" [.str "sensor", .str "present", .str "brake"]) = true ∧ (errB K "InvalidText" "line" "line") = true ∧ (xfdB K "InvalidText" "line") = true ∧ (kisB K [(("CoasterError", "InvalidText"), false), (("InvalidText", "InvalidText"), true)]) = true := by
    have h := cx.more
    simp only [mo, Bool.and_eq_true] at h
    simpa only [and_assoc] using h
  exact {
    b_range := He.free_ok X G (c.fact 0 (f := .free "range") rfl),
    b_int := He.free_ok X G (c.fact 1 (f := .free "int") rfl),
    f_l_draws := c.def_ 0 (d := d0) rfl,
    g_l_draws := He.glo_ok X G (c.fact 2 (f := .glo "_law_draws") rfl),
    b_len := He.free_ok X G (c.fact 3 (f := .free "len") rfl),
    b_abs := He.free_ok X G (c.fact 4 (f := .free "abs") rfl),
    f_l_cell := c.def_ 1 (d := d1) rfl,
    g_l_cell := He.glo_ok X G (c.fact 5 (f := .glo "_law_cell") rfl),
    b_tuple := He.free_ok X G (c.fact 6 (f := .free "tuple") rfl),
    b_str := He.free_ok X G (c.fact 7 (f := .free "str") rfl),
    b_isinstance := He.free_ok X G (c.fact 8 (f := .free "isinstance") rfl),
    b_bool := He.free_ok X G (c.fact 9 (f := .free "bool") rfl),
    b_list := He.free_ok X G (c.fact 10 (f := .free "list") rfl),
    b_all := He.free_ok X G (c.fact 11 (f := .free "all") rfl),
    f_l_like := c.def_ 2 (d := d2) rfl,
    g_l_like := He.glo_ok X G (c.fact 12 (f := .glo "_law_like") rfl),
    g_BUTTONS := He.glo_ok X G (c.fact 13 (f := .glo "BUTTONS") rfl),
    c_BUTTONS := Z.glo_tup (hmo.1) (He.glo_ok X G (c.fact 13 (f := .glo "BUTTONS") rfl)) rfl _,
    b_zip := He.free_ok X G (c.fact 14 (f := .free "zip") rfl),
    b_enumerate := He.free_ok X G (c.fact 15 (f := .free "enumerate") rfl),
    f_show_scan := c.def_ 3 (d := d3) rfl,
    g_show_scan := He.glo_ok X G (c.fact 16 (f := .glo "show_scan") rfl),
    f_format_play := c.def_ 4 (d := d4) rfl,
    g_format_play := He.glo_ok X G (c.fact 17 (f := .glo "format_play") rfl),
    f_read_buttons := c.def_ 5 (d := d5) rfl,
    g_read_buttons := He.glo_ok X G (c.fact 18 (f := .glo "read_buttons") rfl),
    c_MOST_DIGITS := glo_int (He.int_ok X G (c.fact 19 (f := .int "MOST_DIGITS" 9) rfl)),
    c_DIGITS := glo_str (He.str_ok X G (c.fact 20 (f := .str "DIGITS" "0123456789") rfl)),
    f_is_number := c.def_ 6 (d := d6) rfl,
    g_is_number := He.glo_ok X G (c.fact 21 (f := .glo "is_number") rfl),
    f_read_late := c.def_ 7 (d := d7) rfl,
    g_read_late := He.glo_ok X G (c.fact 22 (f := .glo "read_late") rfl),
    g_PARTS := He.glo_ok X G (c.fact 23 (f := .glo "PARTS") rfl),
    c_PARTS := Z.glo_tup (hmo.2.1) (He.glo_ok X G (c.fact 23 (f := .glo "PARTS") rfl)) rfl _,
    f_read_numbers := c.def_ 8 (d := d8) rfl,
    g_read_numbers := He.glo_ok X G (c.fact 24 (f := .glo "read_numbers") rfl),
    f_read_fault := c.def_ 9 (d := d9) rfl,
    g_read_fault := He.glo_ok X G (c.fact 25 (f := .glo "read_fault") rfl),
    f_read_scan := c.def_ 10 (d := d10) rfl,
    g_read_scan := He.glo_ok X G (c.fact 26 (f := .glo "read_scan") rfl),
    g_InvalidText := He.glo_ok X G (c.fact 27 (f := .glo "InvalidText") rfl),
    b_super := He.free_ok X G (c.fact 28 (f := .free "super") rfl),
    er_InvalidText := hmo.2.2.1,
    pf := ⟨by kernel_rfl, by kernel_rfl⟩,
    f_parse_play := c.def_ 11 (d := d11) rfl,
    g_parse_play := He.glo_ok X G (c.fact 29 (f := .glo "parse_play") rfl),
    xf_InvalidText_line := hmo.2.2.2.1,
    e_CoasterError_CoasterError := He.exm_ok (c.fact 30 (f := .exm "CoasterError" "CoasterError" true) rfl),
    g_CoasterError := He.glo_ok X G (c.fact 31 (f := .glo "CoasterError") rfl),
    e_InvalidText_CoasterError := He.exm_ok (c.fact 32 (f := .exm "InvalidText" "CoasterError" true) rfl),
    f_l_told := c.def_ 12 (d := d12) rfl,
    g_l_told := He.glo_ok X G (c.fact 33 (f := .glo "_law_told") rfl),
    b_dict := He.free_ok X G (c.fact 34 (f := .free "dict") rfl),
    f_l_equal := c.def_ 13 (d := d13) rfl,
    g_l_equal := He.glo_ok X G (c.fact 35 (f := .glo "_law_equal") rfl),
    f_law := c.def_ 14 (d := d14) rfl,
    g_law := He.glo_ok X G (c.fact 36 (f := .glo "law") rfl),
    kis := hmo.2.2.2.2 }
end Gk71
open PySem PySem.W PySem.Calls PyProof.Rows
theorem Gk71.ends (hlaw : ∀ ns : List Int, ns.length ≤ 63 → Gk71.m_law [.scr ns] = .ok (.bl true)) : PySem.Challenge.rw_coastersafe_k71_plays_written_and_read.Holds := by
  w_on; o_law
  refine HandSHeadRun.head_any (r := OpenLaw.row PySem.Challenge.rw_coastersafe_k71_plays_written_and_read) (q := view (OpenLaw.row PySem.Challenge.rw_coastersafe_k71_plays_written_and_read).prog [24]) (H := Gk71.hk) (ob := Gk71.ob) (M := 8000) (loose := Gk71.names) (d := HandSHeadRun.topDef (OpenLaw.row PySem.Challenge.rw_coastersafe_k71_plays_written_and_read).prog 24) (kwd := []) Gk71.ob_eq
    (by kernel_rfl) (fun s => by kernel_rfl) Gk71.run (by kernel_rfl) (by kernel_rfl) (by kernel_rfl) (by rfl) (by first | assumption | decide +kernel) (by decide +kernel) ⟨rfl, rfl, rfl, rfl, rfl, by decide +kernel⟩ ?hw ?hc
  case hw => w_witness2
  case hc =>
    refine LamX.walk_ofTsE (l := PySem.Challenge.rw_coastersafe_k71_plays_written_and_read) (n := 63) (k := 9) (x := "script") (CX := fun w => L2.CX (PySem.Challenge.rw_coastersafe_k71_plays_written_and_read).prog w) rfl (by decide) (by kernel_rfl) ⟨rfl, by decide, by decide⟩ ?F (fun w H s e s' h => Z.cx_no w H s e s' h)
    intro w mg fa h Y G hmg0
    obtain ⟨K, KX, c⟩ := Y
    have hmg : mg ("law" : PySem.Str) = some (.ref fa) := by
      have e : (HandSHeadRun.topDef (OpenLaw.row PySem.Challenge.rw_coastersafe_k71_plays_written_and_read).prog 24).name = ("law" : PySem.Str) := by kernel_rfl
      rw [← e]
      exact hmg0
    have T := Gk71.txt KX G c
    have e := hmg.symm.trans T.g_law
    cases e
    obtain ⟨fd, hb, hF⟩ := Gk71.ok_law (P0 := (PySem.Challenge.rw_coastersafe_k71_plays_written_and_read).prog) (w := w) T
    have mem : ∀ p ∈ Gk71.tf.map (He.cT K), ∃ q ∈ Gk71.tf, He.cT K q = p := fun p hp => List.mem_map.mp hp
    refine ⟨K, KX, fd, Gk71.tf.map (He.cT K), _, ?_, ?_, ?_, hb, fun H a ns hl _ ht hS => Z.sp_law hlaw H a ns hl (fun P hP => ?_) hS, fun base _ _ hB => hF base ⟨fun p hp => hB _ (List.mem_map.mpr ⟨p, hp, rfl⟩)⟩⟩
    · intro p hp
      obtain ⟨q, hq, rfl⟩ := mem p hp
      exact c.empty q hq
    · intro p hp
      obtain ⟨q, hq, rfl⟩ := mem p hp
      exact c.out q hq
    · intro p hp
      obtain ⟨q, hq, rfl⟩ := mem p hp
      exact PySem.W.codeHd_of_K KX (c.hd q hq)
    · obtain ⟨q, hq, rfl⟩ := List.mem_map.mp hP
      exact ht _ (List.mem_map.mpr ⟨q, hq, rfl⟩)
end
-- part M71a
section
set_option Elab.async false
set_option linter.all false
set_option maxRecDepth 100000
set_option autoImplicit false
namespace Gk71
open PySem PySem.Spec PyProof.Rows L2 Z
theorem cell_ok (ns : List Int) (k : Nat) : ∃ c : Int, 0 ≤ c ∧ m_l_cell [.scr ns, .int k] = .ok (.int c) := by
  unfold m_l_cell
  by_cases h : (k : Int) < ns.length
  · have e := atI_gi (xs := ns) (i := k) (by omega) h
    refine ⟨if gi ns k < 0 then -gi ns k else gi ns k, by split <;> omega, ?_⟩
    simp [runP_ap, envOf_ap, h, e]
  · exact ⟨0, by omega, by simp [runP_ap, envOf_ap, h]⟩
def JDraws (c : Int) (n : Nat) (k : Nat) (ρ : Z.Env) (S : Store) : Prop := ∃ (acc : List Int) (left : Int) (kk mx : Option W),
  ρ = [some (.val (.int c)), some (.val (.int n)), some (.loc 0), some (.val (.int left)), kk, mx] ∧ S = [.lst (acc.map fun d => .val (.int d))] ∧ acc.length = k ∧ ∀ d ∈ acc, 0 ≤ d ∧ d < 4096
theorem draws_ok (c : Int) (n : Nat) (hc : 0 ≤ c) (hn : n ≤ 1000) : ∃ ds : List Int, ds.length = n ∧ (∀ d ∈ ds, 0 ≤ d ∧ d < 4096) ∧ m_l_draws [.int c, .int n] = .ok (.lst (ds.map .int)) := by
  have L := forGo_rngJ (JDraws c n) (t := .nm 4) (body := m_l_draws_b1) (lo := 0) (n := n) (ρ := [some (.val (.int c)), some (.val (.int n)), some (.loc 0), some (.val (.int c)), none, none]) (S := [.lst []]) ?_ ⟨[], c, none, none, rfl, rfl, rfl, by simp⟩
  · obtain ⟨_, _, e, acc, left, kk, mx, rfl, rfl, hl, hd⟩ := L
    refine ⟨acc, hl, hd, ?_⟩
    unfold m_l_draws
    have r : rngOk 0 n = true := rngOk_of (by omega) (by omega) (by omega) (by omega)
    simp [runP_ap, envOf_ap, r, e]
  · rintro k ρ S hk ⟨acc, left, kk, mx, rfl, rfl, hl, hd⟩
    have hl2 : acc.length < 100000 := by omega
    simp (disch := omega) [m_l_draws_b1, mulOk_c, hl2]
    split
    · split
      · refine ⟨_, _, rfl, acc ++ [_], _, _, _, rfl, by rw [List.map_append] <;> rfl, by simp [hl], fun d h => ?_⟩
        simp only [List.mem_append, List.mem_cons, List.not_mem_nil, or_false] at h
        rcases h with h | rfl
        · exact hd d h
        · omega
      · refine ⟨_, _, rfl, acc ++ [_], _, _, _, rfl, by rw [List.map_append] <;> rfl, by simp [hl], fun d h => ?_⟩
        simp only [List.mem_append, List.mem_cons, List.not_mem_nil, or_false] at h
        rcases h with h | rfl
        · exact hd d h
        · omega
    · refine ⟨_, _, rfl, acc ++ [_], _, _, _, rfl, by rw [List.map_append] <;> rfl, by simp [hl], fun d h => ?_⟩
      simp only [List.mem_append, List.mem_cons, List.not_mem_nil, or_false] at h
      rcases h with h | rfl
      · exact hd d h
      · omega
structure Dr (ds : List Int) (n : Nat) : Prop where
  l : ds.length = n
  b : ∀ d ∈ ds, 0 ≤ d ∧ d < 4096
theorem Dr.at {ds : List Int} {n : Nat} (h : Dr ds n) {i : Int} (h0 : 0 ≤ i) (h1 : i < n) : atI ds i = some (gi ds i) := atI_gi h0 (by rw [h.l]; exact h1)
theorem Dr.r {ds : List Int} {n : Nat} (h : Dr ds n) {i : Int} (h0 : 0 ≤ i) (h1 : i < n) : 0 ≤ gi ds i ∧ gi ds i < 4096 := h.b _ (gi_mem h0 (by rw [h.l]; exact h1))
theorem eqi_ok (j : Nat) (a b : Int) : m_l_equal (j + 1) [.int a, .int b] = .ok (.bl (decide (a = b))) := by
  by_cases h : a = b <;> simp [m_l_equal, runP_ap, envOf_ap, isi, h]
theorem like_str (j : Nat) (s : Str) : m_l_like (j + 1) [.str s, .str s] = .ok (.bl true) := by simp [m_l_like, runP_ap, envOf_ap, isi]
theorem like_non (j : Nat) : m_l_like (j + 1) [.non, .non] = .ok (.bl true) := by simp [m_l_like, runP_ap, envOf_ap, isi]
theorem like_int (j : Nat) (s : Int) : m_l_like (j + 1) [.int s, .int s] = .ok (.bl true) := by simp [m_l_like, runP_ap, envOf_ap, isi]
theorem like_tup (j : Nat) (ps : List P) (hl : ps.length ≤ 1000) (h : ∀ p ∈ ps, m_l_like j [p, p] = .ok (.bl true)) : m_l_like (j + 1) [.tup ps, .tup ps] = .ok (.bl true) := by
  have ert : rngOk 0 (ps.length : Int) = true := rngOk_of (by omega) (by omega) (by omega) (by omega)
  have lg := lcGo_rng (vs := [2]) (t := .nm 2) (e := (eCall 2 (m_l_like j) (aCons (eBin ixW (eVar 0) (eVar 2)) (aCons (eBin ixW (eVar 1) (eVar 2)) aNil)))) (ρ := [some (.val (.tup ps)), some (.val (.tup ps)), none]) (S := []) (n := ps.length) (fun _ => .bl true) (by
    intro k hk
    refine ⟨_, bindT_nm _ _ _, ?_⟩
    have e : atI ps (k : Int) = some ps[k] := by rw [atI_nn, List.getElem?_eq_getElem hk]
    simp [e, h _ (List.getElem_mem hk)])
  have hl2 : ps.length ≤ 100000 := by omega
  simp [m_l_like, runP_ap, envOf_ap, isi, ert, hl2, lg]
theorem like_lst (j : Nat) (ps : List P) (hl : ps.length ≤ 1000) (h : ∀ p ∈ ps, m_l_like j [p, p] = .ok (.bl true)) : m_l_like (j + 1) [.lst ps, .lst ps] = .ok (.bl true) := by
  have ert : rngOk 0 (ps.length : Int) = true := rngOk_of (by omega) (by omega) (by omega) (by omega)
  have lg := lcGo_rng (vs := [2]) (t := .nm 2) (e := (eCall 2 (m_l_like j) (aCons (eBin ixW (eVar 0) (eVar 2)) (aCons (eBin ixW (eVar 1) (eVar 2)) aNil)))) (ρ := [some (.val (.lst ps)), some (.val (.lst ps)), none]) (S := []) (n := ps.length) (fun _ => .bl true) (by
    intro k hk
    refine ⟨_, bindT_nm _ _ _, ?_⟩
    have e : atI ps (k : Int) = some ps[k] := by rw [atI_nn, List.getElem?_eq_getElem hk]
    simp [e, h _ (List.getElem_mem hk)])
  have hl2 : ps.length ≤ 100000 := by omega
  simp [m_l_like, runP_ap, envOf_ap, isi, ert, hl2, lg]
theorem like_bl (j : Nat) (s : Bool) : m_l_like (j + 1) [.bl s, .bl s] = .ok (.bl true) := by simp [m_l_like, runP_ap, envOf_ap, isi]

end Gk71
end
-- part M71b
section
set_option Elab.async false
set_option linter.all false
set_option maxRecDepth 100000
set_option autoImplicit false
namespace Gk71
open PySem PySem.Spec PyProof.Rows L2 Z
/-! ## what the reader does, in plain Lean -/
def occ (c : Nat) : Bool := !(Builtin.Str.occurrences ("0123456789" : Str) ⟨#[c]⟩ 0 ("0123456789" : Str).length 1).isEmpty
def isNum (w : Str) : Bool := decide (1 ≤ w.length) && (decide (w.length ≤ 9) && (w.cps.toList.all occ && (decide (w = "0") || !decide (w.cps.toList.head? = some 48))))
def lateGo (t : Int) : List Str → Int → List Int → Option (List Int × List Str)
  | [], _, acc => some (acc, [])
  | w :: ws, last, acc => if isNum w = true then (match PySem.intText? w with
    | some n => if last < n ∧ n < t then lateGo t ws n (acc.set n.toNat 1) else none
    | none => none) else some (acc, w :: ws)
def bt (w : Str) (ws : List Str) : Int × List Str := match ws with
  | [] => (0, [])
  | x :: xs => if x = w then (1, xs) else (0, x :: xs)
def rdBut (ws : List Str) : (Int × Int × Int) × List Str :=
  let a := bt "go" ws; let b := bt "stop" a.2; let c := bt "open" b.2
  ((a.1, b.1, c.1), c.2)
def rdLate (ws : List Str) (t : Int) : Option (List Int × List Str) := match ws with
  | [] => some (List.replicate t.toNat 0, [])
  | w :: ws => if w = "late" then (match ws with
      | [] => none
      | x :: xs => if isNum x = true then lateGo t (x :: xs) (-1) (List.replicate t.toNat 0) else none) else some (List.replicate t.toNat 0, w :: ws)
def rdFault : List Str → Option (Str × Int × Int × Int)
  | [f, k, a, b, c] => if f = "fault" ∧ (k = "sensor" ∨ k = "present" ∨ k = "brake") ∧ isNum a = true ∧ isNum b = true ∧ isNum c = true then (match PySem.intText? a, PySem.intText? b, PySem.intText? c with
    | some x, some y, some z => if 1 < z ∨ (k = "present" ∧ 0 < x) then none else some (k, x, y, z)
    | _, _, _ => none) else none
  | _ => none
abbrev ScT := (Int × Int × Int) × List Int × Option (Str × Int × Int × Int)
def rdScan (line : Str) (t : Int) : Option ScT :=
  if line = "-" then some ((0, 0, 0), List.replicate t.toNat 0, none) else
  let a := rdBut (Txt.split line " ")
  match rdLate a.2 t with
  | none => none
  | some (late, []) => some (a.1, late, none)
  | some (late, ws) => match rdFault ws with
    | none => none
    | some f => some (a.1, late, some f)
def fltP (f : Str × Int × Int × Int) : P := .tup [.tup [.str f.1, .int f.2.1, .int f.2.2.1], .int f.2.2.2]
def fltO : Option (Str × Int × Int × Int) → P
  | none => .non
  | some f => fltP f
def butP (b : Int × Int × Int) : P := .tup [.int b.1, .int b.2.1, .int b.2.2]
def scP (s : ScT) : P := .tup [butP s.1, .tup (s.2.1.map .int), fltO s.2.2]
def scO : Option ScT → P
  | none => .non
  | some s => scP s
/-! ## the mirrors -/
theorem ch_zero (c : Nat) : ((⟨#[c]⟩ : Str) = "0") ↔ (c = 48) := by
  constructor
  · intro h
    have := congrArg (fun s : Str => s.cps.toList) h
    have e : ("0" : Str).cps.toList = [48] := by decide +kernel
    simp [e] at this; exact this
  · rintro rfl; decide +kernel
theorem isNum_ok (w : Str) (hl : w.length ≤ 1000000) : m_is_number [.str w] = .ok (.bl (isNum w)) := by
  have ag := agGo_all (t := .nm 1) (e := eBin (inW false) (eVar 1) (eCst (.str "0123456789"))) (ρ := [some (.val (.str w)), none]) (S := []) chP occ (xs := w.cps.toList) (fun c hc => ⟨_, bindT_nm _ _ _, by
    simp [chP, inP_str, occ]⟩)
  unfold m_is_number isNum
  by_cases h1 : 1 ≤ w.length
  · by_cases h2 : w.length ≤ 9
    · by_cases h3 : w.cps.toList.all occ = true
      · by_cases h4 : w = "0"
        · rw [h3] at ag
          subst h4
          rw [h3]
          have hz : ("0" : Str).length = 1 := by decide +kernel
          simp [runP_ap, envOf_ap, hz]
          rw [ag]
          simp
        · obtain ⟨c, cs, ec⟩ : ∃ c cs, w.cps.toList = c :: cs := by
            cases e : w.cps.toList with
            | nil => rw [str_len, e] at h1; simp at h1
            | cons c cs => exact ⟨c, cs, rfl⟩
          rw [h3] at ag
          have a0 : atI w.cps.toList 0 = some c := by rw [ec]; exact atI_nn (c :: cs) 0
          have h5 : (w.length : Int) ≤ 9 := by omega
          have h6 : (1 : Int) ≤ (w.length : Int) := by omega
          simp [runP_ap, envOf_ap, ag, h1, h2, h3, h4, a0, hl, h5, h6, chP, ch_zero]
          rw [ec]; simp
      · have h3 := Bool.eq_false_iff.mpr h3
        rw [h3] at ag
        rw [h3]
        have h5 : (w.length : Int) ≤ 9 := by omega
        have h6 : (1 : Int) ≤ (w.length : Int) := by omega
        simp [runP_ap, envOf_ap, ag, hl, h5, h6]
    · have h5 : ¬ (w.length : Int) ≤ 9 := by omega
      simp [runP_ap, envOf_ap, hl, h5, h2]
  · have h6 : ¬ (1 : Int) ≤ (w.length : Int) := by omega
    simp [runP_ap, envOf_ap, hl, h6, h1]
/-! ### the buttons -/
theorem bt_le (w : Str) (ws : List Str) : (bt w ws).2.length ≤ ws.length := by
  cases ws with
  | nil => simp [bt]
  | cons y ys => simp only [bt]; split <;> simp
theorem bt_st (k : Nat) (hk : k < 3) (w : Str) (ws : List Str) (xs : List W) (hx : xs.length = 3) : m_read_buttons_b1 [some (.val (.lst (ws.map .str))), some (.loc 0), some (.val (.int (k : Nat))), some (.val (.str w))] [.lst xs] =
    .nx [some (.val (.lst ((bt w ws).2.map .str))), some (.loc 0), some (.val (.int k)), some (.val (.str w))] [.lst (if (bt w ws).1 = 1 then xs.set k (.val (.int 1)) else xs)] := by
  cases ws with
  | nil => simp [m_read_buttons_b1, bt]
  | cons y ys =>
    by_cases e : y = w
    · subst e
      have ei : ixN xs.length (k : Int) = some k := ixN_nat (by omega)
      simp [m_read_buttons_b1, bt, setIR, setIW, liveL, ei, cut_from1]
    · simp [m_read_buttons_b1, bt, e]
theorem bt_01 (w : Str) (ws : List Str) : (bt w ws).1 = 0 ∨ (bt w ws).1 = 1 := by
  unfold bt; split
  · exact .inl rfl
  · split
    · exact .inr rfl
    · exact .inl rfl
theorem but_ok (ws : List Str) : m_read_buttons [.lst (ws.map .str)] = .ok (.tup [butP (rdBut ws).1, .lst ((rdBut ws).2.map .str)]) := by
  have s0 := fun (ws : List Str) (a b c : W) => bt_st 0 (by omega) "go" ws [a, b, c] rfl
  have s1 := fun (ws : List Str) (a b c : W) => bt_st 1 (by omega) "stop" ws [a, b, c] rfl
  have s2 := fun (ws : List Str) (a b c : W) => bt_st 2 (by omega) "open" ws [a, b, c] rfl
  simp only [Int.ofNat_zero, Int.ofNat_one, Int.cast_ofNat_Int, Int.natCast_zero, Int.natCast_one] at s0 s1 s2
  unfold m_read_buttons rdBut
  have d0 := bt_01 "go" ws
  have d1 := bt_01 "stop" (bt "go" ws).2
  have d2 := bt_01 "open" (bt "stop" (bt "go" ws).2).2
  generalize hb0 : bt "go" ws = b0 at *
  obtain ⟨c0, w0⟩ := b0
  generalize hb1 : bt "stop" w0 = b1 at *
  obtain ⟨c1, w1⟩ := b1
  generalize hb2 : bt "open" w1 = b2 at *
  obtain ⟨c2, w2⟩ := b2
  simp only at d0 d1 d2 hb1 hb2 ⊢
  have q0 := s0 ws; rw [hb0] at q0
  have q1 := s1 w0; rw [hb1] at q1
  have q2 := s2 w1; rw [hb2] at q2
  clear s0 s1 s2
  rcases d0 with rfl | rfl <;> rcases d1 with rfl | rfl <;> rcases d2 with rfl | rfl <;>
    (simp at q0 q1 q2; simp [runP_ap, envOf_ap, forGo_cons, List.range, List.range.loop, hb1, hb2, butP]; rw [q0]; simp [forGo_cons]; rw [q1]; simp [forGo_cons]; rw [q2]; simp [tupleW_loc])
/-! ### numbers -/
/-- words short enough -/
def Sh (ws : List Str) : Prop := ∀ w ∈ ws, w.length ≤ 100000
def isNat (w : Str) : Bool := isNum w && (PySem.intText? w).isSome
def nums (ws : List Str) : Option (List Int) := if ws.all isNum = true then some (ws.map fun w => (PySem.intText? w).getD 0) else none
theorem num_len {w : Str} (h : isNum w = true) : w.length ≤ 640 := by
  unfold isNum at h
  simp only [Bool.and_eq_true, decide_eq_true_eq] at h
  omega
/-- a number's text is read -/
def Rd (ws : List Str) : Prop := ∀ w ∈ ws, isNum w = true → ∃ n, PySem.intText? w = some n
def listO : Option (List Int) → P
  | none => .non
  | some ns => .lst (ns.map .int)
theorem nums_ok (ws : List Str) (hs : Sh ws) (hr : Rd ws) (hl : ws.length ≤ 10000) : m_read_numbers [.lst (ws.map .str)] = .ok (listO (nums ws)) := by
  have ag := agGo_all (t := .nm 1) (e := eCall 1 m_is_number (aCons (eVar 1) aNil)) (ρ := [some (.val (.lst (ws.map .str))), none]) (S := []) P.str isNum (xs := ws) (fun w hw => ⟨_, bindT_nm _ _ _, by
    have := isNum_ok w (by have := hs w hw; omega)
    simp [this]⟩)
  unfold m_read_numbers nums
  by_cases h : ws.all isNum = true
  · rw [h] at ag
    have lg := lcGo_map (vs := [1]) (t := .nm 1) (e := eCB intTW (aCons (eVar 1) aNil)) (ρ := [some (.val (.lst (ws.map .str))), none]) (S := []) P.str (fun w => P.int ((PySem.intText? w).getD 0)) (xs := ws) (fun w hw => ⟨_, bindT_nm _ _ _, by
      have hn := List.all_eq_true.mp h w hw
      obtain ⟨n, en⟩ := hr w hw hn
      have := intTW_str w n [] en (num_len hn)
      simp [this, en]⟩)
    have hl2 : ws.length ≤ 100000 := by omega
    rw [if_pos h]
    simp [runP_ap, envOf_ap, ag, lg, hl2, listO]
  · rw [Bool.eq_false_iff.mpr h] at ag
    rw [if_neg h]
    simp [runP_ap, envOf_ap, ag, listO]
end Gk71
end
-- part M71c
section
set_option Elab.async false
set_option linter.all false
set_option maxRecDepth 100000
set_option autoImplicit false
namespace Gk71
open PySem PySem.Spec PyProof.Rows L2 Z
theorem rdFault_5 (f k a b c : Str) : rdFault [f, k, a, b, c] = if f = "fault" ∧ (k = "sensor" ∨ k = "present" ∨ k = "brake") ∧ isNum a = true ∧ isNum b = true ∧ isNum c = true then (match PySem.intText? a, PySem.intText? b, PySem.intText? c with
    | some x, some y, some z => if 1 < z ∨ (k = "present" ∧ 0 < x) then none else some (k, x, y, z)
    | _, _, _ => none) else none := rfl
theorem inPT (k a b c : Str) : inP (.str k) (.tup [.str a, .str b, .str c]) = some ((a == k) || ((b == k) || (c == k))) := by
  show (if (flatP (P.str k) && List.all [P.str a, P.str b, P.str c] flatP) = true then some (List.any [P.str a, P.str b, P.str c] fun q => eqF q (P.str k)) else none) = _
  simp [flatP]
theorem flt_ok (ws : List Str) (hs : Sh ws) (hr : Rd ws) (hl : ws.length ≤ 10000) : m_read_fault [.lst (ws.map .str)] = .ok (fltO (rdFault ws)) := by
  by_cases h5 : ws.length = 5
  · match ws, h5 with
    | [f, k, a, b, c], _ =>
      have nm := nums_ok [a, b, c] (fun w hw => hs w (by simp at hw ⊢; simp [hw])) (fun w hw => hr w (by simp at hw ⊢; simp [hw])) (by simp)
      by_cases h1 : f = "fault"
      · by_cases h2 : k = "sensor" ∨ k = "present" ∨ k = "brake"
        · have e2 : ("sensor" = k ∨ "present" = k ∨ "brake" = k) := by rcases h2 with h | h | h <;> simp [h]
          have i2 : inP (.str k) (.tup [.str "sensor", .str "present", .str "brake"]) = some true := by
            rcases h2 with rfl | rfl | rfl <;> decide +kernel
          by_cases h3 : [a, b, c].all isNum = true
          · have hh : isNum a = true ∧ isNum b = true ∧ isNum c = true := by simpa [List.all_cons] using h3
            obtain ⟨x, ex⟩ := hr a (by simp) hh.1
            obtain ⟨y, ey⟩ := hr b (by simp) hh.2.1
            obtain ⟨z, ez⟩ := hr c (by simp) hh.2.2
            have e : nums [a, b, c] = some [x, y, z] := by unfold nums; rw [if_pos h3]; simp [ex, ey, ez]
            rw [e] at nm
            simp only [List.map_cons, List.map_nil] at nm
            have q : rdFault [f, k, a, b, c] = if 1 < z ∨ (k = "present" ∧ 0 < x) then none else some (k, x, y, z) := by
              rw [rdFault_5, if_pos ⟨h1, h2, hh⟩, ex, ey, ez]
            rw [q]
            subst h1
            by_cases c1 : 1 < z
            · simp [m_read_fault, runP_ap, envOf_ap, i2, cut_from2, nm, listO, c1, fltO]
            · by_cases c2 : k = "present"
              · by_cases c3 : 0 < x
                · simp [m_read_fault, runP_ap, envOf_ap, i2, cut_from2, nm, listO, c1, c2, c3, fltO]
                · simp [m_read_fault, runP_ap, envOf_ap, i2, cut_from2, nm, listO, c1, c2, c3, fltO, fltP]
              · simp [m_read_fault, runP_ap, envOf_ap, i2, cut_from2, nm, listO, c1, c2, fltO, fltP]
          · have e : nums [a, b, c] = none := by unfold nums; rw [if_neg h3]
            rw [e] at nm
            simp only [List.map_cons, List.map_nil] at nm
            have q : rdFault [f, k, a, b, c] = none := by
              rw [rdFault_5, if_neg fun hh => h3 (by simp [hh.2.2])]
            rw [q]
            subst h1
            simp [m_read_fault, runP_ap, envOf_ap, i2, cut_from2, nm, listO, fltO]
        · have i2 : inP (.str k) (.tup [.str "sensor", .str "present", .str "brake"]) = some false := by
            simp only [not_or] at h2
            have g1 : (("sensor" : Str) == k) = false := by simpa using fun h => h2.1 h.symm
            have g2 : (("present" : Str) == k) = false := by simpa using fun h => h2.2.1 h.symm
            have g3 : (("brake" : Str) == k) = false := by simpa using fun h => h2.2.2 h.symm
            rw [inPT, g1, g2, g3]; rfl
          have q : rdFault [f, k, a, b, c] = none := by rw [rdFault_5, if_neg fun hh => h2 hh.2.1]
          rw [q]
          subst h1
          simp [m_read_fault, runP_ap, envOf_ap, i2, fltO]
      · have q : rdFault [f, k, a, b, c] = none := by rw [rdFault_5, if_neg fun hh => h1 hh.1]
        rw [q]
        simp [m_read_fault, runP_ap, envOf_ap, h1, fltO]
  · have q : rdFault ws = none := by
      unfold rdFault
      split
      · simp at h5
      · rfl
    rw [q]
    have h5' : ¬ (ws.length : Int) = 5 := by omega
    simp [m_read_fault, runP_ap, envOf_ap, h5', h5, fltO]
/-! ### who is late -/
abbrev LC : FE Bool := tAndB (tstB (eBin ltW (eVar 4) (eCB lenW (aCons (eVar 0) aNil)))) (tstB (eCall 1 m_is_number (aCons (eBin ixW (eVar 0) (eVar 4)) aNil)))
def LE (ws : List Str) (t last : Int) (p : Nat) (o5 : Option W) : Z.Env := [some (.val (.lst (ws.map .str))), some (.val (.int t)), some (.loc 0), some (.val (.int last)), some (.val (.int p)), o5]
def LS (acc : List Int) : Store := [.lst (acc.map fun i => .val (.int i))]
theorem late_body (ws : List Str) (t last n : Int) (p : Nat) (o5 : Option W) (acc : List Int) (w : Str) (hw : ws[p]? = some w) (hn : isNum w = true) (en : PySem.intText? w = some n) (hl : -1 ≤ last) (ha : (acc.length : Int) = t) :
    m_read_late_b1 (LE ws t last p o5) (LS acc) = if last < n ∧ n < t then .nx (LE ws t n (p + 1) (some (.val (.int n)))) (LS (acc.set n.toNat 1)) else .rt (.val .non) (LS acc) := by
  have ew : atI ws (p : Int) = some w := by rw [atI_nn, hw]
  have ei := intTW_str w n (LS acc) en (num_len hn)
  unfold LE
  by_cases c1 : last < n
  · by_cases c2 : n < t
    · obtain ⟨k, rfl⟩ := Int.eq_ofNat_of_zero_le (show 0 ≤ n by omega)
      have ek : ixN acc.length (k : Int) = some k := ixN_nat (by omega)
      rw [if_pos ⟨c1, c2⟩]
      unfold m_read_late_b1
      simp [ew]
      rw [ei]
      simp [c1, c2]
      simp [setIR, setIW, liveL, LS, ek, List.map_set]
    · rw [if_neg fun h => c2 h.2]
      unfold m_read_late_b1
      simp [ew]
      rw [ei]
      simp [c1, c2]
  · rw [if_neg fun h => c1 h.1]
    unfold m_read_late_b1
    simp [ew]
    rw [ei]
    simp [c1]
theorem late_cond (ws : List Str) (hs : Sh ws) (t last : Int) (p : Nat) (o5 : Option W) (S : Store) : LC (LE ws t last p o5) S = .ok (match ws[p]? with
    | some w => isNum w
    | none => false) S := by
  unfold LE LC
  cases e : ws[p]? with
  | none =>
    have : ws.length ≤ p := by simpa using e
    have h : ¬ ((p : Int) < (ws.length : Int)) := by omega
    simp [h]
  | some w =>
    have hp : p < ws.length := (List.getElem?_eq_some_iff.mp e).1
    have h : ((p : Int) < (ws.length : Int)) := by omega
    have ew : atI ws (p : Int) = some w := by rw [atI_nn, e]
    have := isNum_ok w (by have := hs w (List.mem_of_getElem? e); omega)
    simp [h, ew, this]
theorem late_loop (t : Int) (ws : List Str) (hs : Sh ws) (hr : Rd ws) : ∀ (rem : List Str) (p : Nat) (last : Int) (acc : List Int) (o5 : Option W), ws.drop p = rem → -1 ≤ last → (acc.length : Int) = t →
    match lateGo t rem last acc with
    | some (acc', rest) => ∃ m last' o5', rest = rem.drop m ∧ m ≤ rem.length ∧ (acc'.length : Int) = t ∧ (∀ x xs, rem = x :: xs → isNum x = true → 1 ≤ m) ∧
        whileGo LC m_read_late_b1 (rem.length + 1) (LE ws t last p o5) (LS acc) = some (.nx (LE ws t last' (p + m) o5') (LS acc'))
    | none => ∃ S', whileGo LC m_read_late_b1 (rem.length + 1) (LE ws t last p o5) (LS acc) = some (.rt (.val .non) S') := by
  intro rem
  induction rem with
  | nil =>
    intro p last acc o5 hd hl ha
    have e : ws[p]? = none := by rw [List.getElem?_eq_none_iff]; exact List.drop_eq_nil_iff.mp hd
    simp only [lateGo]
    refine ⟨0, last, o5, rfl, Nat.le_refl _, ha, fun _ _ h => (by cases h), ?_⟩
    unfold whileGo
    rw [late_cond ws hs, e]
    rfl
  | cons w rem ih =>
    intro p last acc o5 hd hl ha
    have e : ws[p]? = some w := by rw [← List.head?_drop, hd]; rfl
    have hd2 : ws.drop (p + 1) = rem := by rw [← List.drop_drop, hd]; rfl
    unfold whileGo
    rw [late_cond ws hs, e]
    by_cases hn : isNum w = true
    · obtain ⟨n, en⟩ := hr w (List.mem_of_getElem? e) hn
      simp only [hn, lateGo, if_true, en]
      rw [late_body ws t last n p o5 acc w e hn en hl ha]
      by_cases c : last < n ∧ n < t
      · rw [if_pos c, if_pos c]
        have := ih (p + 1) n (acc.set n.toNat 1) (some (.val (.int n))) hd2 (by omega) (by rw [List.length_set]; exact ha)
        cases eg : lateGo t rem n (acc.set n.toNat 1) with
        | none => rw [eg] at this; exact this
        | some q =>
          obtain ⟨acc', rest⟩ := q
          rw [eg] at this
          obtain ⟨m, last', o5', h1, h2, h3, _, h5⟩ := this
          exact ⟨m + 1, last', o5', by rw [h1]; rfl, by simp; omega, h3, fun _ _ _ _ => by omega, by rw [show p + (m + 1) = p + 1 + m by omega]; exact h5⟩
      · rw [if_neg c, if_neg c]
        exact ⟨_, rfl⟩
    · have hn := Bool.eq_false_iff.mpr hn
      simp only [hn, lateGo, Bool.false_eq_true, if_false]
      refine ⟨0, last, o5, rfl, Nat.zero_le _, ha, fun x xs h hx => ?_, rfl⟩
      cases h; rw [hn] at hx; cases hx
def lateO : Option (List Int × List Str) → P
  | none => .non
  | some q => .tup [.tup (q.1.map .int), .lst (q.2.map .str)]
theorem tup_LS (acc : List Int) : tupleW [.loc 0] (LS acc) = .ok (.val (.tup (acc.map .int))) (LS acc) := by
  have e : seqW (LS acc) (.loc 0) = some (acc.map fun i => .val (.int i)) := rfl
  rw [tupleW_loc, e]
  simp only [doFrzs_map P.int]; rfl
theorem eLS (t : Int) : [Cell.lst (List.replicate t.toNat (W.val (P.int 0)))] = LS (List.replicate t.toNat 0) := by simp [LS]
theorem late_ok (ws : List Str) (t : Int) (hs : Sh ws) (hr : Rd ws) (h0 : 0 ≤ t) (h1 : t ≤ 1000) (hl : ws.length ≤ 10000) : m_read_late [.lst (ws.map .str), .int t] = .ok (lateO (rdLate ws t)) := by
  have c1 : t < 100000 := by omega
  have c2 : (-100000 : Int) < t := by omega
  have c3 : t.toNat ≤ 100000 := by omega
  have tl := tup_LS (List.replicate t.toNat 0)
  cases ws with
  | nil =>
    simp [m_read_late, runP_ap, envOf_ap, c1, c2, c3, rdLate, lateO]
    rw [eLS, tl]
    simp
  | cons w ws =>
    by_cases hw : w = "late"
    · have L := late_loop t (w :: ws) hs hr ws 1 (-1) (List.replicate t.toNat 0) none rfl (by omega) (by rw [List.length_replicate]; omega)
      subst hw
      cases ws with
      | nil =>
        simp only [lateGo] at L
        obtain ⟨m, last', o5', e1, e2, e3, _, e4⟩ := L
        have m0 : m = 0 := by simpa using e2
        subst m0
        have ew := sWhile_eq e4
        simp [m_read_late, runP_ap, envOf_ap, c1, c2, c3, rdLate, lateO]
        rw [eLS]
        unfold LE at ew
        simp at ew
        rw [ew]
        simp
      | cons x xs =>
        have hnz : ¬ ((xs.length : Int) + 1 + 1 = 0) := by omega
        cases eg : lateGo t (x :: xs) (-1) (List.replicate t.toNat 0) with
        | none =>
          rw [eg] at L
          obtain ⟨S', e4⟩ := L
          have ew := sWhile_eq e4
          have hx : isNum x = true := by
            by_cases hx : isNum x = true
            · exact hx
            · simp [lateGo, hx] at eg
          simp [m_read_late, runP_ap, envOf_ap, c1, c2, c3, rdLate, lateO, hx, eg, hnz]
          rw [eLS]
          unfold LE at ew
          simp at ew
          rw [ew]
          simp
        | some q =>
          obtain ⟨acc', rest⟩ := q
          rw [eg] at L
          obtain ⟨m, last', o5', e1, e2, e3, e5, e4⟩ := L
          have ew := sWhile_eq e4
          by_cases hx : isNum x = true
          · have hm := e5 x xs rfl hx
            have tl2 := tup_LS acc'
            simp [m_read_late, runP_ap, envOf_ap, c1, c2, c3, rdLate, lateO, hx, eg, hnz]
            rw [eLS]
            unfold LE at ew
            simp at ew
            rw [ew]
            have hm1 : (1 : Int) < 1 + (m : Int) := by omega
            have cf := cut_from (P.str "late" :: P.str x :: xs.map P.str) (1 + m)
            have c1 : ((1 + m : Nat) : Int) = 1 + (m : Int) := by omega
            rw [c1] at cf
            simp [hm1]
            rw [tl2]
            simp [cf]
            rw [e1, List.map_drop, Nat.add_comm, List.drop_succ_cons]; rfl
          · simp [lateGo, hx] at eg
            obtain ⟨rfl, rfl⟩ := eg
            have m0 : m = 0 := by
              have := congrArg List.length e1
              simp at this; omega
            subst m0
            simp [m_read_late, runP_ap, envOf_ap, c1, c2, c3, rdLate, lateO, hx, hnz]
            rw [eLS]
            unfold LE at ew
            simp at ew
            rw [ew]
            simp
    · simp [m_read_late, runP_ap, envOf_ap, c1, c2, c3, rdLate, lateO, hw]
      rw [eLS, tl]
      simp
/-! ### a scan -/
theorem lateO_none {ws : List Str} {t : Int} (h : rdLate ws t = none) : lateO (rdLate ws t) = .non := by rw [h]; rfl
theorem bt_sub (w : Str) (ws : List Str) : ∀ x ∈ (bt w ws).2, x ∈ ws := by
  cases ws with
  | nil => simp [bt]
  | cons y ys =>
    simp only [bt]
    split
    · exact fun x h => List.mem_cons_of_mem _ h
    · exact fun x h => h
theorem but_sub (ws : List Str) : ∀ x ∈ (rdBut ws).2, x ∈ ws := fun x h => bt_sub _ _ x (bt_sub _ _ x (bt_sub _ _ x h))
theorem but_le (ws : List Str) : (rdBut ws).2.length ≤ ws.length := Nat.le_trans (bt_le _ _) (Nat.le_trans (bt_le _ _) (bt_le _ _))
theorem lateGo_sub (t : Int) : ∀ (ws : List Str) (last : Int) (acc : List Int) (q : List Int × List Str), lateGo t ws last acc = some q → (∀ x ∈ q.2, x ∈ ws) ∧ q.2.length ≤ ws.length ∧ q.1.length = acc.length
  | [], last, acc, q, h => by cases h; exact ⟨fun x h => h, Nat.le_refl _, rfl⟩
  | w :: ws, last, acc, q, h => by
    unfold lateGo at h
    split at h
    · split at h
      · split at h
        · obtain ⟨a, b, c⟩ := lateGo_sub t ws _ _ q h
          exact ⟨fun x hx => List.mem_cons_of_mem _ (a x hx), by simp; omega, by rw [c, List.length_set]⟩
        · cases h
      · cases h
    · cases h; exact ⟨fun x h => h, Nat.le_refl _, rfl⟩
theorem rdLate_sub {ws : List Str} {t : Int} {q : List Int × List Str} (h : rdLate ws t = some q) : (∀ x ∈ q.2, x ∈ ws) ∧ q.2.length ≤ ws.length ∧ q.1.length = t.toNat := by
  unfold rdLate at h
  split at h
  · cases h; exact ⟨fun x h => h, Nat.le_refl _, List.length_replicate⟩
  · split at h
    · split at h
      · cases h
      · split at h
        · obtain ⟨a, b, c⟩ := lateGo_sub t _ _ _ q h
          exact ⟨fun x hx => List.mem_cons_of_mem _ (a x hx), by simp at b ⊢; omega, by rw [c, List.length_replicate]⟩
        · cases h
    · cases h; exact ⟨fun x h => h, Nat.le_refl _, List.length_replicate⟩
theorem scan_ok (line : Str) (t : Int) (hs : Sh (Txt.split line " ")) (hr : Rd (Txt.split line " ")) (hl : (Txt.split line " ").length ≤ 10000) (hn : line.length ≤ 1000000) (h0 : 1 ≤ t) (h1 : t ≤ 1000) :
    m_read_scan [.str line, .int t] = .ok (scO (rdScan line t)) := by
  by_cases hd : line = "-"
  · subst hd
    have e := mulTW_tup [.int 0] t [] h0 h1 (by simp) (by simp)
    have c3 : t.toNat ≤ 100000 := by omega
    simp [m_read_scan, runP_ap, envOf_ap]
    rw [e]
    simp [rdScan, scO, scP, butP, fltO, c3]
  · have hlen : (" " : Str).length = 1 := by decide +kernel
    have hb := but_ok (Txt.split line " ")
    have es : rdScan line t = match rdLate (rdBut (Txt.split line " ")).2 t with
      | none => none
      | some (late, []) => some ((rdBut (Txt.split line " ")).1, late, none)
      | some (late, ws) => match rdFault ws with
        | none => none
        | some f => some ((rdBut (Txt.split line " ")).1, late, some f) := by unfold rdScan; rw [if_neg hd] <;> rfl
    rw [es]
    have hsb := but_sub (Txt.split line " ")
    have hsl := but_le (Txt.split line " ")
    generalize rdBut (Txt.split line " ") = bb at *
    obtain ⟨b, w1⟩ := bb
    simp only at hsb hsl
    have hL := late_ok w1 t (fun w h => hs w (hsb w h)) (fun w h => hr w (hsb w h)) (by omega) h1 (by omega)
    simp only at hb ⊢
    cases el : rdLate w1 t with
    | none =>
      rw [el] at hL
      simp [m_read_scan, runP_ap, envOf_ap, hd, hlen, hn, hb, hL, lateO, scO]
    | some q =>
      obtain ⟨late, w2⟩ := q
      obtain ⟨s1, s2, s3⟩ := rdLate_sub el
      rw [el] at hL
      have c3 : late.length ≤ 100000 := by simp only at s3; omega
      cases w2 with
      | nil =>
        simp [m_read_scan, runP_ap, envOf_ap, hd, hlen, hn, hb, hL, lateO, scO, scP, fltO]
      | cons x xs =>
        have hF := flt_ok (x :: xs) (fun w h => hs w (hsb w (s1 w h))) (fun w h => hr w (hsb w (s1 w h))) (by simp only at s2; omega)
        have hnz : ¬ ((xs.length : Int) + 1 = 0) := by omega
        cases ef : rdFault (x :: xs) with
        | none =>
          rw [ef] at hF
          simp only [List.map_cons] at hF
          simp [m_read_scan, runP_ap, envOf_ap, hd, hlen, hn, hb, hL, lateO, scO, hnz, hF, fltO, ef]
        | some f =>
          rw [ef] at hF
          simp only [List.map_cons] at hF
          simp [m_read_scan, runP_ap, envOf_ap, hd, hlen, hn, hb, hL, lateO, scO, scP, hnz, hF, fltO, fltP, ef]
end Gk71
end
-- part M71d
section
set_option Elab.async false
set_option linter.all false
set_option maxRecDepth 100000
set_option autoImplicit false
namespace Gk71
open PySem PySem.Spec PyProof.Rows L2 Z
def rdLines (t : Int) : List Str → List ScT → P
  | [], acc => .lst (acc.map scP)
  | l :: ls, acc => match rdScan l t with
    | none => .int ((acc.length : Int) + 1)
    | some s => rdLines t ls (acc ++ [s])
def lnB (line : Str) : Bool := decide (line.length ≤ 10000) && (decide ((Txt.split line " ").length ≤ 10000) && (Txt.split line " ").all fun w => decide (w.length ≤ 100000) && (!isNum w || (PySem.intText? w).isSome))
structure LnOk (line : Str) : Prop where
  l : line.length ≤ 10000
  n : (Txt.split line " ").length ≤ 10000
  s : Sh (Txt.split line " ")
  r : Rd (Txt.split line " ")
theorem lnB_ok {line : Str} (h : lnB line = true) : LnOk line := by
  unfold lnB at h
  simp only [Bool.and_eq_true, decide_eq_true_eq, List.all_eq_true] at h
  obtain ⟨h1, h2, h3⟩ := h
  refine ⟨h1, h2, fun w hw => (h3 w hw).1, fun w hw hn => ?_⟩
  have := (h3 w hw).2
  rw [hn] at this
  exact Option.isSome_iff_exists.mp (by simpa using this)
theorem LnOk.scan {line : Str} (h : LnOk line) {t : Int} (h0 : 1 ≤ t) (h1 : t ≤ 1000) : m_read_scan [.str line, .int t] = .ok (scO (rdScan line t)) := scan_ok line t h.s h.r h.n (by have := h.l; omega) h0 h1
def PEv (text : Str) (t : Int) (o3 o4 : Option W) : Z.Env := [some (.val (.str text)), some (.val (.int t)), some (.loc 0), o3, o4]
def PSt (acc : List ScT) : Store := [.lst (acc.map fun s => .val (scP s))]
theorem play_loop (text : Str) (t : Int) (h0 : 1 ≤ t) (h1 : t ≤ 1000) : ∀ (lines : List Str) (acc : List ScT) (o3 o4 : Option W), (∀ l ∈ lines, LnOk l) → acc.length + lines.length ≤ 10000 →
    (∃ k : Int, rdLines t lines acc = .int k ∧ ∃ ρ' S', forGo (.nm 3) m_parse_play_b1 (lines.map .str) (PEv text t o3 o4) (PSt acc) = .ex ⟨"InvalidText", ["line"], [.int k]⟩ ρ' S' ∧ ρ'.length = 5) ∨
    ∃ acc' o3' o4', rdLines t lines acc = .lst (acc'.map scP) ∧ forGo (.nm 3) m_parse_play_b1 (lines.map .str) (PEv text t o3 o4) (PSt acc) = .nx (PEv text t o3' o4') (PSt acc')
  | [], acc, o3, o4, _, _ => .inr ⟨acc, o3, o4, rfl, rfl⟩
  | l :: ls, acc, o3, o4, hl, hn => by
    have hs := (hl l List.mem_cons_self).scan h0 h1
    rw [List.map_cons, forGo_cons]
    have hn2 : acc.length < 100000 := by simp at hn; omega
    cases e : rdScan l t with
    | none =>
      refine .inl ⟨(acc.length : Int) + 1, by simp only [rdLines, e], ?_⟩
      rw [e] at hs
      simp only [scO] at hs
      unfold PEv PSt m_parse_play_b1
      simp [hs, scO]
    | some s =>
      have ih := play_loop text t h0 h1 ls (acc ++ [s]) (some (.val (.str l))) (some (.val (scP s))) (fun x hx => hl x (List.mem_cons_of_mem _ hx)) (by simp at hn ⊢; omega)
      have eb : (bindR (bindT (.nm 3) (.str l) (PEv text t o3 o4)) (PSt acc)).seq m_parse_play_b1 = .nx (PEv text t (some (.val (.str l))) (some (.val (scP s)))) (PSt (acc ++ [s])) := by
        rw [e] at hs
        simp only [scO] at hs
        unfold PEv PSt m_parse_play_b1
        simp [hs, scO, scP, hn2]
      rw [eb, rd_nx]
      have er : rdLines t (l :: ls) acc = rdLines t ls (acc ++ [s]) := by simp only [rdLines, e]
      rw [er]
      exact ih
theorem told_ok (text : Str) (t : Int) (h0 : 1 ≤ t) (h1 : t ≤ 1000) (he : text ≠ "") (hz : text.length ≤ 1000000) (hl : ∀ l ∈ Txt.split text "\n", LnOk l) (hn : (Txt.split text "\n").length ≤ 10000) :
    m_l_told [.str text, .int t] = .ok (rdLines t (Txt.split text "\n") []) := by
  have hlen : ("\n" : Str).length = 1 := by decide +kernel
  rcases play_loop text t h0 h1 (Txt.split text "\n") [] none none hl (by simpa using hn) with ⟨k, ek, ρ', S', ef, eρ⟩ | ⟨acc', o3', o4', ek, ef⟩
  · rw [ek]
    have ep : m_parse_play [.str text, .int t] = .ex ⟨"InvalidText", ["line"], [.int k]⟩ := by
      unfold PEv PSt at ef
      simp only [List.map_nil] at ef
      simp [m_parse_play, runP_ap, envOf_ap, he, hlen, hz, ef]
    have x1 : exmT "InvalidText" "CoasterError" = some true := by decide +kernel
    have x2 : kisT "InvalidText" "InvalidText" = some true := by decide +kernel
    simp [m_l_told, runP_ap, envOf_ap, ep]
    rw [asR_ex _ _ _ _ _ _ _ x1]
    have e1 : eXis kisT "InvalidText" ⟨"InvalidText", ["line"], [.int k]⟩ (eVar 2) [some (.val (.str text)), some (.val (.int t)), some .exc] [] = .ok (.val (.bl true)) [] := eXis_exc _ _ _ _ _ _ _ _ rfl x2
    have e2 : eXf "InvalidText" "line" ⟨"InvalidText", ["line"], [.int k]⟩ (eVar 2) [some (.val (.str text)), some (.val (.int t)), some .exc] [] = .ok (.val (.int k)) [] := eXf_exc _ _ _ _ _ _ _ rfl rfl
    simp [e1, e2]
  · rw [ek]
    have ep : m_parse_play [.str text, .int t] = .ok (.lst (acc'.map scP)) := by
      unfold PEv PSt at ef
      simp only [List.map_nil] at ef
      simp [m_parse_play, runP_ap, envOf_ap, he, hlen, hz, ef]
    simp [m_l_told, runP_ap, envOf_ap, ep]
theorem told_nil (t : Int) : m_l_told [.str "", .int t] = .ok (.lst []) := by
  have ep : m_parse_play [.str "", .int t] = .ok (.lst []) := by simp [m_parse_play, runP_ap, envOf_ap]
  simp [m_l_told, runP_ap, envOf_ap, ep]
end Gk71
end
-- part M71e
section
set_option Elab.async false
set_option linter.all false
set_option maxRecDepth 100000
set_option autoImplicit false
namespace Gk71
open PySem PySem.Spec PyProof.Rows L2 Z
/-! ## scans as lines -/
def ns (i : Int) : Str := (toString i : String)
def idxFrom : Nat → List Int → List Nat
  | _, [] => []
  | k, x :: xs => if x = 1 then k :: idxFrom (k + 1) xs else idxFrom (k + 1) xs
def bw (b : Int × Int × Int) : List Str := (if b.1 = 1 then [("go" : Str)] else []) ++ ((if b.2.1 = 1 then [("stop" : Str)] else []) ++ (if b.2.2 = 1 then [("open" : Str)] else []))
def lw (late : List Int) : List Str := if idxFrom 0 late = [] then [] else "late" :: (idxFrom 0 late).map fun (k : Nat) => ns (k : Int)
def fw : Option (Str × Int × Int × Int) → List Str
  | none => []
  | some f => ["fault", f.1, ns f.2.1, ns f.2.2.1, ns f.2.2.2]
def wordsOf (s : ScT) : List Str := bw s.1 ++ (lw s.2.1 ++ fw s.2.2)
def lineOf (s : ScT) : Str := if wordsOf s = [] then "-" else Txt.join " " (wordsOf s)
structure FOk (f : Str × Int × Int × Int) : Prop where
  k : f.1 = "sensor" ∨ f.1 = "present" ∨ f.1 = "brake"
  b : 0 ≤ f.2.1 ∧ f.2.1 < 20
  p : f.1 = "present" → f.2.1 = 0
  c : 0 ≤ f.2.2.1 ∧ f.2.2.1 < 3
  d : 0 ≤ f.2.2.2 ∧ f.2.2.2 < 2
structure ScOk (t : Int) (s : ScT) : Prop where
  b0 : s.1.1 = 0 ∨ s.1.1 = 1
  b1 : s.1.2.1 = 0 ∨ s.1.2.1 = 1
  b2 : s.1.2.2 = 0 ∨ s.1.2.2 = 1
  l : (s.2.1.length : Int) = t
  z : ∀ x ∈ s.2.1, x = 0 ∨ x = 1
  f : ∀ f, s.2.2 = some f → FOk f
def Wl : List Str := (["go", "stop", "open", "late", "fault", "sensor", "present", "brake"] : List Str) ++ (List.range 20).map fun (k : Nat) => ns (k : Int)
theorem wl_all : ∀ w ∈ Wl, (32 ∉ TL.tl w ∧ 10 ∉ TL.tl w) ∧ (w.length ≤ 7 ∧ w ≠ "-") ∧ (isNum w = true → (PySem.intText? w).isSome = true) := by decide +kernel
theorem ns_wl {i : Int} (h0 : 0 ≤ i) (h1 : i < 20) : ns i ∈ Wl := by
  obtain ⟨k, rfl⟩ := Int.eq_ofNat_of_zero_le h0
  exact List.mem_append.mpr (.inr (List.mem_map.mpr ⟨k, List.mem_range.mpr (by omega), rfl⟩))
theorem ns_rd : ∀ k : Nat, k ∈ List.range 20 → PySem.intText? (ns (k : Int)) = some (k : Int) ∧ isNum (ns (k : Int)) = true := by decide +kernel
theorem ns_num {i : Int} (h0 : 0 ≤ i) (h1 : i < 20) : PySem.intText? (ns i) = some i ∧ isNum (ns i) = true := by
  obtain ⟨k, rfl⟩ := Int.eq_ofNat_of_zero_le h0
  exact ns_rd k (List.mem_range.mpr (by omega))
theorem idx_lt : ∀ (xs : List Int) (k : Nat), ∀ j ∈ idxFrom k xs, k ≤ j ∧ j < k + xs.length
  | [], k, j, h => by cases h
  | x :: xs, k, j, h => by
    unfold idxFrom at h
    have ih := idx_lt xs (k + 1)
    split at h
    · rcases List.mem_cons.mp h with rfl | h
      · simp
      · have := ih j h; simp; omega
    · have := ih j h; simp; omega
theorem idx_len : ∀ (xs : List Int) (k : Nat), (idxFrom k xs).length ≤ xs.length
  | [], k => Nat.le_refl _
  | x :: xs, k => by
    unfold idxFrom
    have ih := idx_len xs (k + 1)
    split <;> simp <;> omega
theorem words_wl {t : Int} (ht : t ≤ 8) {s : ScT} (h : ScOk t s) : ∀ w ∈ wordsOf s, w ∈ Wl := by
  intro w hw
  unfold wordsOf at hw
  rcases List.mem_append.mp hw with hw | hw
  · have : w = "go" ∨ w = "stop" ∨ w = "open" := by
      unfold bw at hw
      rcases List.mem_append.mp hw with hw | hw
      · split at hw
        · exact .inl (by simpa using hw)
        · cases hw
      · rcases List.mem_append.mp hw with hw | hw
        · split at hw
          · exact .inr (.inl (by simpa using hw))
          · cases hw
        · split at hw
          · exact .inr (.inr (by simpa using hw))
          · cases hw
    rcases this with rfl | rfl | rfl <;> decide +kernel
  · rcases List.mem_append.mp hw with hw | hw
    · unfold lw at hw
      split at hw
      · cases hw
      · rcases List.mem_cons.mp hw with rfl | hw
        · decide +kernel
        · obtain ⟨j, hj, rfl⟩ := List.mem_map.mp hw
          have := idx_lt _ _ j hj
          have hl := h.l
          exact ns_wl (by omega) (by omega)
    · cases e : s.2.2 with
      | none => rw [e] at hw; cases hw
      | some f =>
        rw [e] at hw
        have F := h.f f e
        obtain ⟨b1, b2⟩ := F.b; obtain ⟨c1, c2⟩ := F.c; obtain ⟨d1, d2⟩ := F.d
        simp only [fw, List.mem_cons, List.not_mem_nil, or_false] at hw
        rcases hw with rfl | rfl | rfl | rfl | rfl
        · decide +kernel
        · rcases F.k with e | e | e <;> rw [e] <;> decide +kernel
        · exact ns_wl b1 b2
        · exact ns_wl c1 (by omega)
        · exact ns_wl d1 (by omega)
theorem words_len {t : Int} (ht : t ≤ 8) {s : ScT} (h : ScOk t s) : (wordsOf s).length ≤ 17 := by
  have h1 : (bw s.1).length ≤ 3 := by
    unfold bw; simp only [List.length_append]
    split <;> split <;> split <;> simp
  have h2 : (lw s.2.1).length ≤ 9 := by
    unfold lw; split
    · simp
    · have := idx_len s.2.1 0
      have := h.l
      simp; omega
  have h3 : (fw s.2.2).length ≤ 5 := by
    cases s.2.2 <;> simp [fw]
  unfold wordsOf
  simp; omega
theorem tl_sp : TL.tl " " = [32] := by decide +kernel
theorem tl_nl : TL.tl "\n" = [10] := by decide +kernel
theorem split_words {ws : List Str} (hw : ∀ w ∈ ws, w ∈ Wl) (hne : ws ≠ []) : Txt.split (Txt.join " " ws) " " = ws :=
  TL.split_join (s := 32) (S := []) tl_sp (by decide +kernel) hne fun p hp => (wl_all p (hw p hp)).1.1
theorem joinL_mem {S : List Nat} : ∀ {ps : List (List Nat)} {x : Nat}, x ∈ TL.joinL S ps → x ∈ S ∨ ∃ p ∈ ps, x ∈ p
  | [], x, h => by cases h
  | [p], x, h => .inr ⟨p, List.mem_cons_self, h⟩
  | p :: q :: r, x, h => by
    rcases List.mem_append.mp h with h | h
    · exact .inr ⟨p, List.mem_cons_self, h⟩
    · rcases List.mem_append.mp h with h | h
      · exact .inl h
      · rcases joinL_mem h with h | ⟨y, hy, h⟩
        · exact .inl h
        · exact .inr ⟨y, List.mem_cons_of_mem _ hy, h⟩
theorem join_mem {y : Str} {ws : List Str} {x : Nat} (h : x ∈ TL.tl (Txt.join y ws)) : x ∈ TL.tl y ∨ ∃ w ∈ ws, x ∈ TL.tl w := by
  rw [TL.join_eq, TL.tl_join] at h
  rcases joinL_mem h with h | ⟨p, hp, h⟩
  · exact .inl h
  · obtain ⟨w, hw, rfl⟩ := List.mem_map.mp hp
    exact .inr ⟨w, hw, h⟩
theorem joinL_len {S : List Nat} : ∀ (ps : List (List Nat)), (TL.joinL S ps).length ≤ (ps.map List.length).sum + ps.length * S.length
  | [] => by simp [TL.joinL]
  | [p] => by simp [TL.joinL]
  | p :: q :: r => by
    have ih := joinL_len (S := S) (q :: r)
    show (p ++ (S ++ TL.joinL S (q :: r))).length ≤ _
    simp only [List.length_append, List.map_cons, List.sum_cons, List.length_cons] at ih ⊢
    have : (r.length + 1 + 1) * S.length = (r.length + 1) * S.length + S.length := by rw [Nat.add_mul]; omega
    omega
theorem tl_len (x : Str) : (TL.tl x).length = x.length := by simp [TL.tl, Str.length]
theorem sum_le (n : Nat) : ∀ ws : List Str, (∀ w ∈ ws, w.length ≤ n) → (ws.map (·.length)).sum ≤ ws.length * n
  | [], _ => by simp
  | w :: ws, h => by
    have := sum_le n ws fun x hx => h x (List.mem_cons_of_mem _ hx)
    have h1 := h w List.mem_cons_self
    simp only [List.map_cons, List.sum_cons, List.length_cons]
    rw [Nat.add_mul]; omega
theorem join_len (y : Str) (ws : List Str) (n : Nat) (h : ∀ w ∈ ws, w.length ≤ n) : (Txt.join y ws).length ≤ ws.length * (n + y.length) ∧ (ws.map (·.length)).sum ≤ ws.length * n := by
  have s := sum_le n ws h
  refine ⟨?_, s⟩
  have := joinL_len (S := TL.tl y) (ws.map TL.tl)
  rw [← TL.tl_join, ← TL.join_eq, tl_len, List.map_map, List.length_map, tl_len] at this
  have e : (ws.map (List.length ∘ TL.tl)) = ws.map (·.length) := List.map_congr_left fun w _ => tl_len w
  rw [e] at this
  rw [Nat.mul_add]; omega
theorem line_len {t : Int} (ht : t ≤ 8) {s : ScT} (h : ScOk t s) : (lineOf s).length ≤ 136 := by
  unfold lineOf
  split
  · decide +kernel
  · have e1 := (join_len " " (wordsOf s) 7 fun w hw => (wl_all w (words_wl ht h w hw)).2.1.1).1
    have e2 := words_len ht h
    have e3 : (" " : Str).length = 1 := by decide +kernel
    rw [e3] at e1
    omega
theorem line_nl {t : Int} (ht : t ≤ 8) {s : ScT} (h : ScOk t s) : 10 ∉ TL.tl (lineOf s) := by
  unfold lineOf
  split
  · decide +kernel
  · intro hm
    rcases join_mem hm with hm | ⟨w, hw, hm⟩
    · rw [tl_sp] at hm; simp at hm
    · exact (wl_all w (words_wl ht h w hw)).1.2 hm
theorem line_ok {t : Int} (ht : t ≤ 8) {s : ScT} (h : ScOk t s) : LnOk (lineOf s) := by
  by_cases e : wordsOf s = []
  · unfold lineOf; rw [if_pos e]
    exact lnB_ok (by decide +kernel)
  · have hw := words_wl ht h
    have es : Txt.split (lineOf s) " " = wordsOf s := by
      unfold lineOf; rw [if_neg e]; exact split_words hw e
    have e2 := words_len ht h
    refine ⟨by have := line_len ht h; omega, by rw [es]; omega, fun w hm => ?_, fun w hm hn => ?_⟩
    · rw [es] at hm
      have := (wl_all w (hw w hm)).2.1.1
      omega
    · rw [es] at hm
      exact Option.isSome_iff_exists.mp ((wl_all w (hw w hm)).2.2 hn)
/-! ### what is read of them -/
theorem but_rd (b : Int × Int × Int) (h0 : b.1 = 0 ∨ b.1 = 1) (h1 : b.2.1 = 0 ∨ b.2.1 = 1) (h2 : b.2.2 = 0 ∨ b.2.2 = 1) (r : List Str) (hr : ∀ x xs, r = x :: xs → x ≠ "go" ∧ x ≠ "stop" ∧ x ≠ "open") : rdBut (bw b ++ r) = (b, r) := by
  obtain ⟨x, y, z⟩ := b
  simp only at h0 h1 h2
  have g1 : ¬ (("stop" : Str) = "go") := by decide +kernel
  have g2 : ¬ (("open" : Str) = "go") := by decide +kernel
  have g3 : ¬ (("open" : Str) = "stop") := by decide +kernel
  cases r with
  | nil =>
    rcases h0 with rfl | rfl <;> rcases h1 with rfl | rfl <;> rcases h2 with rfl | rfl <;> simp [bw, rdBut, bt, g1, g2, g3]
  | cons a as =>
    obtain ⟨a1, a2, a3⟩ := hr a as rfl
    rcases h0 with rfl | rfl <;> rcases h1 with rfl | rfl <;> rcases h2 with rfl | rfl <;> simp [bw, rdBut, bt, g1, g2, g3, a1, a2, a3]
theorem fw_head (o : Option (Str × Int × Int × Int)) : ∀ x xs, fw o = x :: xs → x = "fault" := by
  intro x xs h
  cases o with
  | none => cases h
  | some f => simp only [fw, List.cons.injEq] at h; exact h.1.symm
theorem lateGo_fw (t last : Int) (acc : List Int) (o : Option (Str × Int × Int × Int)) : lateGo t (fw o) last acc = some (acc, fw o) := by
  cases o with
  | none => rfl
  | some f =>
    have : isNum "fault" = false := by decide +kernel
    simp [fw, lateGo, this]
theorem lateGo_idx (t : Int) (ht : t ≤ 8) (r : List Str) (hr : ∀ last acc, lateGo t r last acc = some (acc, r)) : ∀ (xs pre : List Int) (last : Int), (∀ x ∈ xs, x = 0 ∨ x = 1) → (pre.length : Int) + xs.length = t → last < pre.length → 
    lateGo t ((idxFrom pre.length xs).map (fun (k : Nat) => ns (k : Int)) ++ r) last (pre ++ List.replicate xs.length 0) = some (pre ++ xs, r)
  | [], pre, last, _, _, _ => by simp [idxFrom, hr]
  | x :: xs, pre, last, hz, hl, hp => by
    have hz' : ∀ y ∈ xs, y = 0 ∨ y = 1 := fun y hy => hz y (List.mem_cons_of_mem _ hy)
    simp only [List.length_cons] at hl
    rcases hz x List.mem_cons_self with rfl | rfl
    · have ih := lateGo_idx t ht r hr xs (pre ++ [0]) last hz' (by simp; omega) (by simp; omega)
      simp only [idxFrom, if_neg (show ¬ ((0 : Int) = 1) by omega)]
      rw [show pre.length + 1 = (pre ++ [(0 : Int)]).length by simp]
      simpa [List.replicate_succ] using ih
    · have ih := lateGo_idx t ht r hr xs (pre ++ [1]) pre.length hz' (by simp; omega) (by simp; omega)
      obtain ⟨e1, e2⟩ := ns_num (i := (pre.length : Int)) (by omega) (by omega)
      simp only [idxFrom, if_true, List.map_cons, List.cons_append, lateGo, e2, e1]
      rw [if_pos ⟨hp, by omega⟩]
      have es : (pre ++ List.replicate (1 :: xs).length (0 : Int)).set (pre.length : Int).toNat 1 = pre ++ [1] ++ List.replicate xs.length 0 := by
        simp [List.replicate_succ, List.set_append]
      rw [es, show pre.length + 1 = (pre ++ [(1 : Int)]).length by simp, ih]
      simp
theorem idx_nil : ∀ (xs : List Int) (k : Nat), (∀ x ∈ xs, x = 0 ∨ x = 1) → idxFrom k xs = [] → xs = List.replicate xs.length 0
  | [], k, _, _ => rfl
  | x :: xs, k, hz, h => by
    unfold idxFrom at h
    split at h
    · cases h
    · rename_i hx
      have := idx_nil xs (k + 1) (fun y hy => hz y (List.mem_cons_of_mem _ hy)) h
      rcases hz x List.mem_cons_self with rfl | rfl
      · rw [List.length_cons, List.replicate_succ, ← this]
      · exact (hx rfl).elim
theorem late_rd {t : Int} (ht : t ≤ 8) (late : List Int) (hl : (late.length : Int) = t) (hz : ∀ x ∈ late, x = 0 ∨ x = 1) (o : Option (Str × Int × Int × Int)) : rdLate (lw late ++ fw o) t = some (late, fw o) := by
  have et : t.toNat = late.length := by omega
  unfold lw
  split
  · rename_i h
    have e := idx_nil late 0 hz h
    rw [List.nil_append]
    have nf : ¬ (("fault" : Str) = "late") := by decide +kernel
    cases o with
    | none => simp only [fw, rdLate, et]; rw [← e]
    | some f => simp only [fw, rdLate, if_neg nf, et]; rw [← e]
  · rename_i h
    cases ei : idxFrom 0 late with
    | nil => exact (h ei).elim
    | cons j js =>
      have hj := idx_lt late 0 j (by rw [ei]; exact List.mem_cons_self)
      obtain ⟨e1, e2⟩ := ns_num (i := (j : Int)) (by omega) (by omega)
      have L := lateGo_idx t ht (fw o) (fun last acc => lateGo_fw t last acc o) late [] (-1) hz (by simpa using hl) (by simp)
      simp only [List.length_nil, List.nil_append, ei, List.map_cons, List.cons_append] at L
      simp only [List.map_cons, List.cons_append, rdLate, if_true, e2, et]
      exact L
theorem fault_rd {f : Str × Int × Int × Int} (F : FOk f) : rdFault (fw (some f)) = some f := by
  obtain ⟨k, b, c, d⟩ := f
  obtain ⟨fk, ⟨b1, b2⟩, fp, ⟨c1, c2⟩, ⟨d1, d2⟩⟩ := F
  simp only at fk b1 b2 fp c1 c2 d1 d2
  obtain ⟨e1, e2⟩ := ns_num b1 b2
  obtain ⟨e3, e4⟩ := ns_num c1 (by omega)
  obtain ⟨e5, e6⟩ := ns_num d1 (by omega)
  simp only [fw]
  rw [rdFault_5, if_pos ⟨rfl, fk, e2, e4, e6⟩, e1, e3, e5]
  simp only
  rw [if_neg]
  rintro (h | ⟨h, h'⟩)
  · omega
  · have := fp h; omega
theorem line_rd {t : Int} (ht : t ≤ 8) {s : ScT} (h : ScOk t s) : rdScan (lineOf s) t = some s := by
  obtain ⟨b, late, f⟩ := s
  have hl := h.l
  have et : t.toNat = late.length := by simp only at hl; omega
  by_cases e : wordsOf (b, late, f) = []
  · unfold lineOf; rw [if_pos e]
    unfold rdScan; rw [if_pos rfl]
    unfold wordsOf at e
    simp only [List.append_eq_nil_iff] at e
    obtain ⟨e1, e2, e3⟩ := e
    have f0 : f = none := by
      cases f with
      | none => rfl
      | some f => cases e3
    have l0 : late = List.replicate late.length 0 := by
      unfold lw at e2
      split at e2
      · rename_i q; exact idx_nil late 0 h.z q
      · cases e2
    have b0 : b = (0, 0, 0) := by
      obtain ⟨x, y, z⟩ := b
      have q1 := h.b0; have q2 := h.b1; have q3 := h.b2
      simp only at q1 q2 q3
      unfold bw at e1
      rcases q1 with rfl | rfl <;> rcases q2 with rfl | rfl <;> rcases q3 with rfl | rfl <;> first | rfl | (simp at e1)
    rw [f0, b0, et, ← l0]
  · have hw := words_wl ht h
    have es : Txt.split (lineOf (b, late, f)) " " = wordsOf (b, late, f) := by
      unfold lineOf; rw [if_neg e]; exact split_words hw e
    have nd : ¬ lineOf (b, late, f) = "-" := by
      intro q
      rw [q] at es
      have e1 : Txt.split "-" " " = [("-" : Str)] := by decide +kernel
      rw [e1] at es
      exact (wl_all "-" (hw "-" (by rw [← es]; exact List.mem_cons_self))).2.1.2 rfl
    unfold rdScan
    rw [if_neg nd, es]
    have r1 : rdBut (wordsOf (b, late, f)) = (b, lw late ++ fw f) := but_rd b h.b0 h.b1 h.b2 _ (by
      intro x xs hx
      have : x = "late" ∨ x = "fault" := by
        unfold lw at hx
        split at hx
        · exact .inr (fw_head f x xs (by simpa using hx))
        · rw [List.cons_append, List.cons.injEq] at hx
          exact .inl hx.1.symm
      rcases this with rfl | rfl <;> decide +kernel)
    have r2 := late_rd ht late hl h.z f
    simp only [r1, r2]
    cases f with
    | none => rfl
    | some f =>
      have r3 := fault_rd (h.f f rfl)
      have ec : fw (some f) = ("fault" : Str) :: [f.1, ns f.2.1, ns f.2.2.1, ns f.2.2.2] := rfl
      rw [ec] at r3 ⊢
      simp only [r3]
end Gk71
end
-- part M71f
section
set_option Elab.async false
set_option linter.all false
set_option maxRecDepth 100000
set_option autoImplicit false
namespace Gk71
open PySem PySem.Spec PyProof.Rows L2 Z
/-! ## show_scan -/
theorem idx_zip : ∀ (late : List Int) (k : Nat), (((List.range' k late.length).zip late).filter fun q : Nat × Int => decide (q.2 = 1)).map (fun q => q.1) = idxFrom k late
  | [], k => rfl
  | x :: xs, k => by
    have ih := idx_zip xs (k + 1)
    simp only [List.length_cons, List.range'_succ, List.zip_cons_cons, List.filter_cons, idxFrom]
    by_cases h : x = 1
    · simp only [h, decide_true, if_true, List.map_cons]; rw [ih]
    · simp only [h, decide_false, Bool.false_eq_true, if_false]; exact ih
theorem join_two (a b : Str) (ws : List Str) : Txt.join " " (ws ++ [a, b]) = Txt.join " " (ws ++ [a ++ (" " ++ b)]) := by
  rw [TL.join_eq, TL.join_eq]
  induction ws with
  | nil => show a ++ " " ++ b = _; exact str_append_assoc _ _ _
  | cons w ws ih =>
    cases ws with
    | nil =>
      show w ++ " " ++ (a ++ " " ++ b) = w ++ " " ++ (a ++ (" " ++ b))
      rw [str_append_assoc a]
    | cons v ws =>
      show w ++ " " ++ Str.join " " (v :: ws ++ [a, b]) = w ++ " " ++ Str.join " " (v :: ws ++ [a ++ (" " ++ b)])
      rw [ih]
def fStr (f : Str × Int × Int × Int) : Str := "fault " ++ (f.1 ++ (" " ++ (ns f.2.1 ++ (" " ++ (ns f.2.2.1 ++ (" " ++ ns f.2.2.2))))))
theorem fault_sp (x : Str) : ("fault " : Str) ++ x = "fault" ++ (" " ++ x) := by
  rw [← str_append_assoc]
  have : ("fault " : Str) = "fault" ++ " " := by decide +kernel
  rw [← this]
theorem join_fw (ws : List Str) (f : Str × Int × Int × Int) : Txt.join " " (ws ++ fw (some f)) = Txt.join " " (ws ++ [fStr f]) := by
  have e1 : ws ++ fw (some f) = (ws ++ [("fault" : Str), f.1, ns f.2.1]) ++ [ns f.2.2.1, ns f.2.2.2] := by simp [fw]
  rw [e1, join_two]
  have e2 : (ws ++ [("fault" : Str), f.1, ns f.2.1]) ++ [ns f.2.2.1 ++ (" " ++ ns f.2.2.2)] = (ws ++ [("fault" : Str), f.1]) ++ [ns f.2.1, ns f.2.2.1 ++ (" " ++ ns f.2.2.2)] := by simp
  rw [e2, join_two]
  have e3 : ∀ x : Str, (ws ++ [("fault" : Str), f.1]) ++ [x] = (ws ++ [("fault" : Str)]) ++ [f.1, x] := by simp
  rw [e3, join_two]
  have e4 : ∀ x : Str, (ws ++ [("fault" : Str)]) ++ [x] = ws ++ [("fault" : Str), x] := by simp
  rw [e4, join_two, fStr, fault_sp]
theorem ns_len {i : Int} (h0 : 0 ≤ i) (h1 : i < 20) : (ns i).length ≤ 7 := (wl_all _ (ns_wl h0 h1)).2.1.1
theorem str_append_len (x y : Str) : (x ++ y).length = x.length + y.length := str_app_len x y
theorem pOf_words {S : Store} {n : Nat} {ws : List Str} (h : S[n]? = some (.lst (ws.map (W.val ∘ P.str)))) : pOf S (.loc n) = some (.lst (ws.map .str)) := by
  have e : ws.map (W.val ∘ P.str) = (ws.map P.str).map .val := by rw [List.map_map]
  rw [pOf_loc, h, e, pOfC_lst, valAll_ps]; rfl
theorem join_words {S : Store} {n : Nat} {ws : List Str} {a : Str} (h : S[n]? = some (.lst (ws.map (W.val ∘ P.str)))) (hb : ∀ w ∈ ws, w.length ≤ 200) (hl : ws.length ≤ 1000) (ha : a.length ≤ 200) : joinW (.val (.str a)) (.loc n) S = .ok (.val (.str (Txt.join a ws))) S := by
  rw [joinW_pt, pOf_words h]
  simp only [strsOf_strs, joinR_some]
  have := sum_le 200 ws hb
  rw [if_pos]
  have e : ws.length * a.length ≤ 1000 * 200 := Nat.mul_le_mul hl ha
  have e2 : ws.length * 200 ≤ 1000 * 200 := Nat.mul_le_mul_right 200 hl
  omega
theorem bw_eq (b0 b1 b2 : Int) : (([(("go" : Str), b0), ("stop", b1), ("open", b2)]).filter fun q => decide (q.2 = 1)).map (fun q => P.str q.1) = (bw (b0, b1, b2)).map .str := by
  by_cases h0 : b0 = 1 <;> by_cases h1 : b1 = 1 <;> by_cases h2 : b2 = 1 <;> simp [bw, h0, h1, h2]
def SE (b0 b1 b2 : Int) (late : List Int) (f : Option (Str × Int × Int × Int)) (o4 : Option W) : Z.Env := [some (.val (scP ((b0, b1, b2), late, f))), some (.val (butP (b0, b1, b2))), some (.val (.tup (late.map .int))), some (.val (fltO f)), o4, none, none, none, none, none]
theorem show_lc1 (b0 b1 b2 : Int) (late : List Int) (f : Option (Str × Int × Int × Int)) : lcGo [5, 6] (.tp [(.nm 5), (.nm 6)]) (tstB (eBin (eqW false) (eVar 6) (eCst (.int 1)))) (eVar 5) (SE b0 b1 b2 late f none) [.tup [.str "go", .int b0], .tup [.str "stop", .int b1], .tup [.str "open", .int b2]] [] = .ok ((bw (b0, b1, b2)).map .str) [] := by
  have := lcGo_filter (vs := [5, 6]) (t := .tp [(.nm 5), (.nm 6)]) (c := tstB (eBin (eqW false) (eVar 6) (eCst (.int 1)))) (e := eVar 5) (ρ := SE b0 b1 b2 late f none) (S := []) (fun q : Str × Int => P.tup [.str q.1, .int q.2]) (fun q => decide (q.2 = 1)) (fun q => P.str q.1) (xs := [("go", b0), ("stop", b1), ("open", b2)]) (fun q _ => by
    refine ⟨_, rfl, ?_, fun _ => ?_⟩
    · simp [SE]
    · simp [SE])
  rw [bw_eq] at this
  exact this
theorem show_lc2 (b0 b1 b2 : Int) (late : List Int) (f : Option (Str × Int × Int × Int)) (S : Store) (hl : late.length ≤ 8) : lcGo [6, 8] (.tp [(.nm 6), (.nm 8)]) (tstB (eBin (eqW false) (eVar 8) (eCst (.int 1)))) (eCB strW (aCons (eVar 6) aNil)) (SE b0 b1 b2 late f (some (.loc 0)))
    (((List.range late.length).zip (late.map P.int)).map fun q => P.tup [.int (q.1 : Int), q.2]) S = .ok ((idxFrom 0 late).map fun (k : Nat) => P.str (ns (k : Int))) S := by
  have := lcGo_filter (vs := [6, 8]) (t := .tp [(.nm 6), (.nm 8)]) (c := tstB (eBin (eqW false) (eVar 8) (eCst (.int 1)))) (e := eCB strW (aCons (eVar 6) aNil)) (ρ := SE b0 b1 b2 late f (some (.loc 0))) (S := S) (fun q : Nat × Int => P.tup [.int (q.1 : Int), .int q.2]) (fun q => decide (q.2 = 1)) (fun q => P.str (ns (q.1 : Int))) (xs := (List.range late.length).zip late) (fun q hq => by
    have hk : q.1 < 8 := by
      have := (List.of_mem_zip hq).1
      have := List.mem_range.mp this
      omega
    refine ⟨_, rfl, ?_, fun _ => ?_⟩
    · simp [SE]
    · have e : ((q.1 : Int)).natAbs < 2 ^ 64 := by omega
      simp [SE, ns]; omega)
  have e1 : ((List.range late.length).zip (late.map P.int)).map (fun q => P.tup [.int (q.1 : Int), q.2]) = ((List.range late.length).zip late).map fun q : Nat × Int => P.tup [.int (q.1 : Int), .int q.2] := by
    rw [List.zip_map_right, List.map_map]; rfl
  rw [e1, this]
  have e2 := idx_zip late 0
  rw [← List.range_eq_range'] at e2
  rw [← e2, List.map_map]; rfl
theorem ns_repr (b : Int) : Str.ofString b.repr = ns b := rfl
theorem show_ok {t : Int} (h0 : 1 ≤ t) (ht : t ≤ 8) {s : ScT} (h : ScOk t s) : m_show_scan [scP s] = .ok (.str (lineOf s)) := by
  have hw := words_wl ht h
  have hwl := words_len ht h
  obtain ⟨⟨b0, b1, b2⟩, late, f⟩ := s
  have hl := h.l
  simp only at hl
  have hl8 : late.length ≤ 8 := by omega
  have l1 := show_lc1 b0 b1 b2 late f
  have l2 := show_lc2 b0 b1 b2 late f [.lst ((bw (b0, b1, b2)).map (W.val ∘ P.str))] hl8
  have c1 : late.length ≤ 100000 := by omega
  unfold SE scP butP at l1 l2
  cases f with
  | none =>
    simp [m_show_scan, runP_ap, envOf_ap, scP, butP, fltO] at l1 l2 ⊢
    rw [l1]
    simp
    rw [l2]
    have es : lineOf ((b0, b1, b2), late, none) = if bw (b0, b1, b2) ++ lw late = [] then ("-" : Str) else Txt.join " " (bw (b0, b1, b2) ++ lw late) := by
      simp [lineOf, wordsOf, fw]
    rw [es]
    have hw2 : ∀ w ∈ bw (b0, b1, b2) ++ lw late, w ∈ Wl := fun w hm => hw w (by simpa [wordsOf, fw] using hm)
    have hl2 : (bw (b0, b1, b2) ++ lw late).length ≤ 17 := by simpa [wordsOf, fw] using hwl
    generalize bw (b0, b1, b2) = bl at *
    have hb : ∀ w ∈ bl ++ lw late, w.length ≤ 200 := fun w hm => by have := (wl_all w (hw2 w hm)).2.1.1; omega
    have hsp : (" " : Str).length ≤ 200 := by decide +kernel
    have J := join_words (S := [.lst ((bl ++ lw late).map (W.val ∘ P.str))]) (n := 0) rfl hb (by omega) hsp
    unfold lw at *
    by_cases hi : idxFrom 0 late = []
    · simp [hi, c1, Function.comp_def] at J ⊢
      rw [J]
      by_cases hbl : bl = []
      · simp [hbl]
      · simp [hbl, List.length_pos_iff.mpr hbl]
    · have z1 : 0 < (idxFrom 0 late).length := List.length_pos_iff.mpr hi
      have z2 := idx_len late 0
      have z3 : 1 + (idxFrom 0 late).length ≤ 100000 := by omega
      have z4 : bl.length + ((idxFrom 0 late).length + 1) ≤ 100000 := by simp [hi] at hl2; omega
      have z5 : 0 < (bl.length : Int) + (((idxFrom 0 late).length : Int) + 1) := by omega
      simp [hi, c1, z1, z3, z4, z5, Function.comp_def] at J ⊢
      rw [J]
      simp
  | some f =>
    have F := h.f f rfl
    have es : lineOf ((b0, b1, b2), late, some f) = Txt.join " " ((bw (b0, b1, b2) ++ lw late) ++ [fStr f]) := by
      rw [← join_fw]
      have : wordsOf ((b0, b1, b2), late, some f) = (bw (b0, b1, b2) ++ lw late) ++ fw (some f) := by simp [wordsOf]
      rw [← this]
      unfold lineOf
      rw [if_neg]
      rw [this]
      intro q
      simp [fw] at q
    rw [es]
    have hw2 : ∀ w ∈ bw (b0, b1, b2) ++ lw late, w ∈ Wl := fun w hm => hw w (by simp only [wordsOf, List.mem_append] at hm ⊢; rcases hm with hm | hm <;> simp [hm])
    have hl2 : (bw (b0, b1, b2) ++ lw late).length ≤ 17 := by simp only [wordsOf, List.length_append] at hwl ⊢; omega
    generalize bw (b0, b1, b2) = bl at *
    obtain ⟨k, b, c, d⟩ := f
    obtain ⟨fk, ⟨b1', b2'⟩, fp, ⟨c1', c2'⟩, ⟨d1', d2'⟩⟩ := F
    simp only at fk b1' b2' c1' c2' d1' d2'
    have kl : k.length ≤ 7 := (wl_all k (by rcases fk with e | e | e <;> rw [e] <;> decide +kernel)).2.1.1
    have n1 := ns_len b1' b2'
    have n2 := ns_len c1' (by omega)
    have n3 := ns_len d1' (by omega)
    have l6 : ("fault " : Str).length = 6 := by decide +kernel
    have l1s : (" " : Str).length = 1 := by decide +kernel
    have le : Str.empty.length = 0 := by decide +kernel
    have fl : (fStr (k, b, c, d)).length ≤ 200 := by
      simp only [fStr, str_append_len, l6, l1s]; omega
    have hb : ∀ w ∈ (bl ++ lw late) ++ [fStr (k, b, c, d)], w.length ≤ 200 := fun w hm => by
      rcases List.mem_append.mp hm with hm | hm
      · have := (wl_all w (hw2 w hm)).2.1.1; omega
      · rw [List.mem_singleton.mp hm]; exact fl
    have hsp : (" " : Str).length ≤ 200 := by decide +kernel
    have J := join_words (S := [.lst (((bl ++ lw late) ++ [fStr (k, b, c, d)]).map (W.val ∘ P.str))]) (n := 0) rfl hb (by simp only [List.length_append] at hl2 ⊢; simp; omega) hsp
    have kl2 : k.length ≤ 1000000 := by omega
    have v1 : b.natAbs < 18446744073709551616 := by omega
    have v2 : c.natAbs < 18446744073709551616 := by omega
    have v3 : d.natAbs < 18446744073709551616 := by omega
    have ef : fStr (k, b, c, d) = Str.empty ++ "fault " ++ k ++ " " ++ ns b ++ " " ++ ns c ++ " " ++ ns d := by
      rw [str_empty_append]; simp only [fStr, str_append_assoc]
    rw [ef] at J ⊢
    by_cases hi : idxFrom 0 late = []
    · simp [m_show_scan, runP_ap, envOf_ap, scP, butP, fltO, fltP] at l1 l2 ⊢
      rw [l1]
      simp
      rw [l2]
      have z4 : bl.length < 100000 := by simp only [List.length_append] at hl2; omega
      simp [hi, c1, kl2, v1, v2, v3, ns_repr]
      repeat rw [if_pos (by simp only [str_append_len, l6, l1s, le]; omega)]
      simp [z4, hi, lw, Function.comp_def] at J ⊢
      rw [J]
      simp
    · simp [m_show_scan, runP_ap, envOf_ap, scP, butP, fltO, fltP] at l1 l2 ⊢
      rw [l1]
      simp
      rw [l2]
      have z1 : 0 < (idxFrom 0 late).length := List.length_pos_iff.mpr hi
      have z2 := idx_len late 0
      have z3 : 1 + (idxFrom 0 late).length ≤ 100000 := by omega
      have z4 : bl.length + ((idxFrom 0 late).length + 1) ≤ 100000 := by simp only [List.length_append] at hl2; omega
      have z6 : bl.length + ((idxFrom 0 late).length + 1) < 100000 := by simp only [List.length_append] at hl2; omega
      have z5 : 0 < (bl.length : Int) + (((idxFrom 0 late).length : Int) + 1) := by omega
      simp [hi, c1, z1, z3, z4, z5, kl2, v1, v2, v3, ns_repr]
      repeat rw [if_pos (by simp only [str_append_len, l6, l1s, le]; omega)]
      simp [hi, z4, z6, lw, Function.comp_def] at J ⊢
      rw [J]
      simp
      intro hz; omega
end Gk71
end
-- part M71g
section
set_option Elab.async false
set_option linter.all false
set_option maxRecDepth 100000
set_option autoImplicit false
namespace Gk71
open PySem PySem.Spec PyProof.Rows L2 Z
theorem play_fmt {t : Int} (h0 : 1 ≤ t) (ht : t ≤ 8) (ss : List ScT) (h : ∀ s ∈ ss, ScOk t s) (hl : ss.length ≤ 8) : m_format_play [.lst (ss.map scP)] = .ok (.str (Txt.join "\n" (ss.map lineOf))) := by
  have lg := lcGo_map (vs := [1]) (t := .nm 1) (e := eCall 1 m_show_scan (aCons (eVar 1) aNil)) (ρ := [some (.val (.lst (ss.map scP))), none]) (S := []) scP (fun s => P.str (lineOf s)) (xs := ss) (fun s hs => ⟨_, bindT_nm _ _ _, by
    have := show_ok h0 ht (h s hs)
    simp [this]⟩)
  have hl2 : ss.length ≤ 100000 := by omega
  have e : ss.map (fun s => P.str (lineOf s)) = (ss.map lineOf).map .str := by rw [List.map_map]; rfl
  have sm := sum_le 136 (ss.map lineOf) (fun w hw => by
    obtain ⟨s, hs, rfl⟩ := List.mem_map.mp hw
    exact line_len ht (h s hs))
  rw [List.length_map] at sm
  have l1 : ("\n" : Str).length = 1 := by decide +kernel
  have sj := strsOf_map lineOf ss
  have sm2 : ((ss.map lineOf).map (·.length)).sum + ss.length * 1 ≤ 1000000 := by omega
  rw [List.map_map] at sm2
  simp [m_format_play, runP_ap, envOf_ap, hl2, lg, l1, Function.comp_def] at sm2 ⊢
  exact sm2
theorem idx_rng : ∀ (late : List Int) (k : Nat), ((List.range late.length).filter fun j => decide (late.getD j 0 = 1)).map (fun j => k + j) = idxFrom k late
  | [], k => rfl
  | x :: xs, k => by
    have ih := idx_rng xs (k + 1)
    rw [List.length_cons, List.range_succ_eq_map, List.filter_cons]
    simp only [idxFrom, List.getD_cons_zero, List.filter_map, Function.comp_def, List.getD_cons_succ]
    have e : ((List.range xs.length).filter fun j => decide (xs.getD j 0 = 1)).map (fun j => k + (j + 1)) = idxFrom (k + 1) xs := by
      rw [← ih]; apply List.map_congr_left; intro a _; omega
    by_cases h : x = 1
    · simp only [h, decide_true, if_true, List.map_cons, List.map_map, Function.comp_def, Nat.add_zero]; rw [← e]
    · simp only [h, decide_false, Bool.false_eq_true, if_false, List.map_map, Function.comp_def]; rw [← e]
theorem in_ints (xs : List Int) : inP (.int 1) (.tup (xs.map .int)) = some (decide (1 ∈ xs)) := by
  have hf : (xs.map P.int).all flatP = true := by rw [List.all_eq_true]; intro p hp; obtain ⟨i, _, rfl⟩ := List.mem_map.mp hp; rfl
  show (if (flatP (P.int 1) && (xs.map P.int).all flatP) = true then some ((xs.map P.int).any fun q => eqF q (P.int 1)) else none) = _
  rw [if_pos (by rw [hf]; rfl)]
  congr 1
  rw [List.any_map]
  apply Bool.eq_iff_iff.mpr
  simp only [List.any_eq_true, Function.comp, decide_eq_true_eq]
  constructor
  · rintro ⟨x, hx, h⟩; simp at h; rw [← h]; exact hx
  · intro h; exact ⟨1, h, by simp⟩
/-! ### the drawn scans -/
def lateD (d : Int) (t : Nat) : List Int := (List.range t).map fun (j : Nat) => d / (8 * 2 ^ j) % 2
def kindD (x : Int) : Str := if x = 0 then "sensor" else if x = 1 then "present" else "brake"
def faultD (e g : Int) : Option (Str × Int × Int × Int) := if e % 3 = 0 then some (kindD (e / 3 % 3), (e / 9 % 20) * (if kindD (e / 3 % 3) = "present" then 0 else 1), g % 3, g / 3 % 2) else none
def scD (d e g : Int) (t : Nat) : ScT := ((d % 2, d / 2 % 2, d / 4 % 2), lateD d t, faultD e g)
theorem kindD_of (x : Int) : kindD x = "sensor" ∨ kindD x = "present" ∨ kindD x = "brake" := by
  unfold kindD; split
  · exact .inl rfl
  · split
    · exact .inr (.inl rfl)
    · exact .inr (.inr rfl)
theorem scD_ok (d e g : Int) (t : Nat) : ScOk t (scD d e g t) := by
  refine ⟨by simp only [scD]; omega, by simp only [scD]; omega, by simp only [scD]; omega, by simp [scD, lateD], fun x hx => ?_, fun f hf => ?_⟩
  · simp only [scD, lateD, List.mem_map] at hx
    obtain ⟨j, _, rfl⟩ := hx
    omega
  · simp only [scD, faultD] at hf
    split at hf
    · cases hf
      refine ⟨kindD_of _, ?_, fun h => ?_, by simp only; omega, by simp only; omega⟩
      · simp only; split <;> omega
      · simp only at h ⊢; rw [if_pos h]; omega
    · cases hf
def DE (ns : List Int) (ds ms : List Int) (t : Nat) (o6 o7 o8 o9 o10 o11 o12 o13 o14 : Option W) : Z.Env := [some (.val (.scr ns)), some (.val (.lst (ds.map .int))), some (.val (.lst (ms.map .int))), some (.val (.int t)), some (.loc 0), some (.loc 1), o6, o7, o8, o9, o10, o11, o12, o13, o14, none, none, none, none, none, none, none]
abbrev wsC (ws : List Str) : Cell := .lst (ws.map (W.val ∘ P.str))
def cLate : FS := (sIf (tstB (eBin (inW false) (eCst (.int 1)) (eVar 9))) (sAsg 11 (eBin addLW (eBin addW (eVar 11) (eLstP (aCons (eCst (.str "late")) aNil))) (eLc (iRange1 (aCons (eVar 3) aNil)) [10] (.nm 10) (tstB (eBin (eqW false) (eBin ixW (eVar 9) (eVar 10)) (eCst (.int 1)))) (eCB strW (aCons (eVar 10) aNil))))) sSkip)
def cFault : FS := (sIf (tstB (eBin (eqW false) (eBin modW (eBin ixW (eVar 1) (eBin addW (eCst (.int 10)) (eVar 6))) (eCst (.int 3))) (eCst (.int 0)))) (sSeq (sAsg 13 (eBin ixW (eLstP (aCons (eCst (.str "sensor")) (aCons (eCst (.str "present")) (aCons (eCst (.str "brake")) aNil)))) (eBin modW (eBin fdivW (eBin ixW (eVar 1) (eBin addW (eCst (.int 10)) (eVar 6))) (eCst (.int 3))) (eCst (.int 3)))))
  (sSeq (sAsg 14 (eBin mulW (eBin modW (eBin fdivW (eBin ixW (eVar 1) (eBin addW (eCst (.int 10)) (eVar 6))) (eCst (.int 9))) (eCst (.int 20))) (eCB intW (aCons (eBin (eqW true) (eVar 13) (eCst (.str "present"))) aNil))))
  (sSeq (sAsg 12 (eTup (aCons (eTup (aCons (eVar 13) (aCons (eVar 14) (aCons (eBin modW (eBin ixW (eVar 1) (eBin addW (eCst (.int 20)) (eVar 6))) (eCst (.int 3))) aNil)))) (aCons (eBin modW (eBin fdivW (eBin ixW (eVar 1) (eBin addW (eCst (.int 20)) (eVar 6))) (eCst (.int 3))) (eCst (.int 2))) aNil))))
  (sAsg 11 (eBin addLW (eVar 11) (eLstP (aCons (eCst (.str "fault")) (aCons (eVar 13) (aCons (eCB strW (aCons (eVar 14) aNil)) (aCons (eCB strW (aCons (eBin ixW (eBin ixW (eVar 12) (eCst (.int 0))) (eCst (.int 2))) aNil)) (aCons (eCB strW (aCons (eBin ixW (eVar 12) (eCst (.int 1))) aNil)) aNil))))))))))) sSkip)
def cA : FS := (sExpr (eBM "list" appendW (eVar 4) (aCons (eTup (aCons (eVar 8) (aCons (eVar 9) (aCons (eVar 12) aNil)))) aNil)))
def cB : FS := (sExpr (eBM "list" appendW (eVar 5) (aCons (eBin ixW (eLstP (aCons (eM1 joinW (eCst (.str " ")) (eVar 11)) (aCons (eCst (.str "-")) aNil))) (eCB intW (aCons (eBin (eqW false) (eCB lenW (aCons (eVar 11) aNil)) (eCst (.int 0))) aNil))) aNil)))
section
variable (ns' ds ms : List Int) (t : Nat) (o6 o7 o8 o9 o10 o11 o12 o13 o14 : Option W)
theorem lcA (d : Int) (S : Store) (ht : t ≤ 8) : lcGo [10] (.nm 10) cYes (eBin modW (eBin fdivW (eVar 7) (eBin shlW (eCst (.int 8)) (eVar 10))) (eCst (.int 2))) (DE ns' ds ms t o6 (some (.val (.int d))) o8 o9 o10 o11 o12 o13 o14) (rngP 0 t) S = .ok ((lateD d t).map .int) S := by
  have := lcGo_rng (vs := [10]) (t := .nm 10) (e := eBin modW (eBin fdivW (eVar 7) (eBin shlW (eCst (.int 8)) (eVar 10))) (eCst (.int 2))) (ρ := DE ns' ds ms t o6 (some (.val (.int d))) o8 o9 o10 o11 o12 o13 o14) (S := S) (n := t) (fun j => .int (d / (8 * 2 ^ j) % 2)) (fun k hk => ⟨_, bindT_nm _ _ _, by
    have e1 : (k : Int) ≤ 1000000 := by omega
    have e2 : (8 : Int) * 2 ^ k ≤ 1024 := by
      have : (2 : Int) ^ k ≤ 2 ^ 7 := by
        have := Nat.pow_le_pow_right (show 0 < 2 by decide) (show k ≤ 7 by omega)
        exact_mod_cast this
      omega
    have e3 : (0 : Int) < 2 ^ k := Int.pow_pos (by decide)
    have e4 : (0 : Int) < 8 * 2 ^ k ∧ (8 : Int) * 2 ^ k < 18446744073709551616 := by omega
    simp [DE, iOp, e1, e4.1, e4.2]⟩)
  rw [this]
  simp [lateD]
theorem lcB (late : List Int) (S : Store) (hl : late.length = t) (ht : t ≤ 8) : lcGo [10] (.nm 10) (tstB (eBin (eqW false) (eBin ixW (eVar 9) (eVar 10)) (eCst (.int 1)))) (eCB strW (aCons (eVar 10) aNil)) (DE ns' ds ms t o6 o7 o8 (some (.val (.tup (late.map .int)))) o10 o11 o12 o13 o14) (rngP 0 t) S = .ok ((idxFrom 0 late).map fun (k : Nat) => P.str (ns (k : Int))) S := by
  subst hl
  have := lcGo_filter (vs := [10]) (t := .nm 10) (c := tstB (eBin (eqW false) (eBin ixW (eVar 9) (eVar 10)) (eCst (.int 1)))) (e := eCB strW (aCons (eVar 10) aNil)) (ρ := DE ns' ds ms late.length o6 o7 o8 (some (.val (.tup (late.map .int)))) o10 o11 o12 o13 o14) (S := S) (fun (k : Nat) => P.int (0 + (k : Int))) (fun j => decide (late.getD j 0 = 1)) (fun (k : Nat) => P.str (ns (k : Int))) (xs := List.range late.length) (fun k hk => by
    have hk := List.mem_range.mp hk
    have e1 : atI late (k : Int) = some (late.getD k 0) := by rw [atI_nn, List.getElem?_eq_getElem hk]; simp [hk]
    refine ⟨_, bindT_nm _ _ _, ?_, fun _ => ?_⟩
    · simp [DE, e1]
    · have e2 : (k : Int).natAbs < 2 ^ 64 := by omega
      simp [DE, ns]; omega)
  rw [rngP_eq, this]
  have e := idx_rng late 0
  rw [← e, List.map_map]
  simp [Function.comp_def]
theorem set_self {α : Type} {S : List α} {n : Nat} {x : α} (h : S[n]? = some x) : S.set n x = S := by
  apply List.ext_getElem?
  intro i
  by_cases e : n = i
  · subst e; rw [List.getElem?_set_self (List.getElem?_eq_some_iff.mp h).1, h]
  · rw [List.getElem?_set_ne e]
theorem b1_ok (b0 b1 b2 : Int) (k : Nat) (hk : k < 3) (n : Nat) (S : Store) (ws : List Str) (hS : S[n]? = some (wsC ws)) (hl : ws.length < 100) :
    m_law_b1 (DE ns' ds ms t o6 o7 (some (.val (.tup [.int b0, .int b1, .int b2]))) o9 (some (.val (.int (k : Nat)))) (some (.loc n)) o12 o13 o14) S =
      .nx (DE ns' ds ms t o6 o7 (some (.val (.tup [.int b0, .int b1, .int b2]))) o9 (some (.val (.int (k : Nat)))) (some (.loc n)) o12 o13 o14) (S.set n (wsC (if [b0, b1, b2].getD k 0 = 1 then ws ++ [([("go" : Str), "stop", "open"]).getD k ""] else ws))) := by
  have hs := set_self hS
  have c : ws.length < 100000 := by omega
  have h : k = 0 ∨ k = 1 ∨ k = 2 := by omega
  rcases h with rfl | rfl | rfl
  · by_cases h : b0 = 1 <;> simp [m_law_b1, DE, hS, h, c, wsC] <;> exact hs.symm
  · by_cases h : b1 = 1 <;> simp [m_law_b1, DE, hS, h, c, wsC] <;> exact hs.symm
  · by_cases h : b2 = 1 <;> simp [m_law_b1, DE, hS, h, c, wsC] <;> exact hs.symm
theorem loop3 (b0 b1 b2 : Int) (n : Nat) (S : Store) (hS : S[n]? = some (wsC [])) : ∃ o10',
    forGo (.nm 10) m_law_b1 (rngP 0 3) (DE ns' ds ms t o6 o7 (some (.val (.tup [.int b0, .int b1, .int b2]))) o9 o10 (some (.loc n)) o12 o13 o14) S =
      .nx (DE ns' ds ms t o6 o7 (some (.val (.tup [.int b0, .int b1, .int b2]))) o9 o10' (some (.loc n)) o12 o13 o14) (S.set n (wsC (bw (b0, b1, b2)))) := by
  refine ⟨some (.val (.int 2)), ?_⟩
  have hn := (List.getElem?_eq_some_iff.mp hS).1
  have st := fun (k : Nat) (hk : k < 3) (o10 : Option W) (S : Store) (ws : List Str) (hS : S[n]? = some (wsC ws)) (hl : ws.length < 100) =>
    (show (bindR (bindT (.nm 10) (.int (k : Nat)) (DE ns' ds ms t o6 o7 (some (.val (.tup [.int b0, .int b1, .int b2]))) o9 o10 (some (.loc n)) o12 o13 o14)) S).seq m_law_b1 = _ from b1_ok ns' ds ms t o6 o7 o9 o12 o13 o14 b0 b1 b2 k hk n S ws hS hl)
  have er : rngP 0 3 = [P.int (0 : Nat), P.int (1 : Nat), P.int (2 : Nat)] := by simp [rngP, List.range, List.range.loop]
  have gs : ∀ (ws : List Str), (S.set n (wsC ws))[n]? = some (wsC ws) := fun ws => by simp [hn]
  rw [er, forGo_cons, st 0 (by omega) o10 S [] hS (by simp), rd_nx, forGo_cons, st 1 (by omega) _ _ _ (gs _) (by split <;> simp), rd_nx, List.set_set, forGo_cons, st 2 (by omega) _ _ _ (gs _) (by split <;> split <;> simp), rd_nx, List.set_set, forGo_nil]
  have e : (if [b0, b1, b2].getD 2 0 = 1 then (if [b0, b1, b2].getD 1 0 = 1 then (if [b0, b1, b2].getD 0 0 = 1 then [] ++ [([("go" : Str), "stop", "open"]).getD 0 ""] else []) ++ [([("go" : Str), "stop", "open"]).getD 1 ""] else (if [b0, b1, b2].getD 0 0 = 1 then [] ++ [([("go" : Str), "stop", "open"]).getD 0 ""] else [])) ++ [([("go" : Str), "stop", "open"]).getD 2 ""] else (if [b0, b1, b2].getD 1 0 = 1 then (if [b0, b1, b2].getD 0 0 = 1 then [] ++ [([("go" : Str), "stop", "open"]).getD 0 ""] else []) ++ [([("go" : Str), "stop", "open"]).getD 1 ""] else (if [b0, b1, b2].getD 0 0 = 1 then [] ++ [([("go" : Str), "stop", "open"]).getD 0 ""] else []))) = bw (b0, b1, b2) := by
    simp only [List.getD_cons_zero, List.getD_cons_succ, bw]
    by_cases h0 : b0 = 1 <;> by_cases h1 : b1 = 1 <;> by_cases h2 : b2 = 1 <;> simp [h0, h1, h2]
  rw [e]
  rfl
theorem late_st (late : List Int) (A B : Cell) (T : Store) (m : Nat) (ws : List Str) (hT : T[m]? = some (wsC ws)) (hl : late.length = t) (hz : ∀ x ∈ late, x = 0 ∨ x = 1) (ht : t ≤ 8) (hw : ws.length ≤ 100) :
    ∃ m' T' o10', cLate (DE ns' ds ms t o6 o7 o8 (some (.val (.tup (late.map .int)))) o10 (some (.loc (m + 2))) o12 o13 o14) (A :: B :: T) =
      .nx (DE ns' ds ms t o6 o7 o8 (some (.val (.tup (late.map .int)))) o10' (some (.loc (m' + 2))) o12 o13 o14) (A :: B :: T') ∧ T'[m']? = some (wsC (ws ++ lw late)) := by
  have hin : decide (1 ∈ late) = decide (idxFrom 0 late ≠ []) := by
    have : 1 ∈ late ↔ idxFrom 0 late ≠ [] := by
      constructor
      · intro h e
        have := idx_nil late 0 hz e
        rw [this] at h
        have := (List.mem_replicate.mp h).2
        omega
      · intro h
        have e := idx_rng late 0
        cases q : (List.range late.length).filter fun j => decide (late.getD j 0 = 1) with
        | nil => rw [q] at e; exact (h e.symm).elim
        | cons a as =>
          have hm : a ∈ (List.range late.length).filter fun j => decide (late.getD j 0 = 1) := by rw [q]; exact List.mem_cons_self
          obtain ⟨h1, h2⟩ := List.mem_filter.mp hm
          have h1 := List.mem_range.mp h1
          have h2 : late.getD a 0 = 1 := by simpa using h2
          rw [← h2]
          have : late.getD a 0 = late[a] := by simp [h1]
          rw [this]; exact List.getElem_mem h1
    exact decide_eq_decide.mpr this
  have ii := in_ints late
  rw [hin] at ii
  by_cases h : idxFrom 0 late = []
  · refine ⟨m, T, o10, ?_, by rw [hT]; simp [lw, h]⟩
    simp [cLate, DE, ii, h]
  · have lb := lcB ns' ds ms t o6 o7 o8 o10 (some (.loc (m + 2))) o12 o13 o14 late (A :: B :: T) hl ht
    have r : rngOk 0 t = true := rngOk_of (by omega) (by omega) (by omega) (by omega)
    have ht2 : t ≤ 100000 := by omega
    have z := idx_len late 0
    have c1 : ws.length + 1 ≤ 100000 := by omega
    have c2 : ws.length + 1 + (idxFrom 0 late).length ≤ 100000 := by omega
    have pw := pOf_words (S := A :: B :: T) (n := m + 2) (ws := ws) hT
    unfold DE at lb
    simp only [pOf_loc] at pw
    simp at pw
    refine ⟨T.length, T ++ [wsC (ws ++ lw late)], o10, ?_, by simp⟩
    simp [cLate, DE, ii, h, r, ht2, hT, c1, wsC]
    rw [lb]
    simp [c2, lw, h, Function.comp_def]
theorem kind_at (x : Int) : atI [P.str "sensor", P.str "present", P.str "brake"] (x % 3) = some (.str (kindD (x % 3))) := by
  have : x % 3 = 0 ∨ x % 3 = 1 ∨ x % 3 = 2 := by omega
  rcases this with h | h | h <;> rw [h] <;> rfl
theorem fault_st (k : Nat) (d e g : Int) (A B : Cell) (T : Store) (m : Nat) (ws : List Str) (hT : T[m]? = some (wsC ws)) (hw : ws.length ≤ 100) (he : atI ds (10 + (k : Int)) = some e) (hg : atI ds (20 + (k : Int)) = some g) (e0 : 0 ≤ e) (e1 : e < 4096) (g0 : 0 ≤ g) (g1 : g < 4096) :
    ∃ m' T' o13' o14', cFault (DE ns' ds ms t (some (.val (.int k))) o7 o8 o9 o10 (some (.loc (m + 2))) (some (.val .non)) o13 o14) (A :: B :: T) =
      .nx (DE ns' ds ms t (some (.val (.int k))) o7 o8 o9 o10 (some (.loc (m' + 2))) (some (.val (fltO (faultD e g)))) o13' o14') (A :: B :: T') ∧ T'[m']? = some (wsC (ws ++ fw (faultD e g))) := by
  by_cases h : e % 3 = 0
  · have ka := kind_at (e / 3)
    have c1 : ws.length + 5 ≤ 100000 := by omega
    have mo1 : mulOk (e / 9 % 20) (if kindD (e / 3 % 3) = "present" then 0 else 1) = true := by apply mulOk_c; split <;> omega
    refine ⟨T.length, T ++ [wsC (ws ++ fw (faultD e g))], some (.val (.str (kindD (e / 3 % 3)))), some (.val (.int ((e / 9 % 20) * (if kindD (e / 3 % 3) = "present" then 0 else 1)))), ?_, by simp⟩
    have v1 : ((e / 9 % 20) * (if kindD (e / 3 % 3) = "present" then 0 else 1)).natAbs < 18446744073709551616 := by split <;> omega
    have v2 : (g % 3).natAbs < 18446744073709551616 := by omega
    have v3 : (g / 3 % 2).natAbs < 18446744073709551616 := by omega
    by_cases hk : kindD (e / 3 % 3) = "present"
    · simp only [hk] at ka mo1 v1 ⊢
      have mo2 : mulOk (e / 9 % 20) 0 = true := by apply mulOk_c; omega
      simp [cFault, DE, he, hg, h, ka, hT, faultD, fltO, fltP, fw, c1, wsC, hk, v2, v3, ns_repr]
      exact mo2
    · simp only [hk] at mo1 v1 ⊢
      have mo2 : mulOk (e / 9 % 20) 1 = true := by apply mulOk_c; omega
      have v4 : (e / 9 % 20).natAbs < 18446744073709551616 := by omega
      simp [cFault, DE, he, hg, h, ka, hT, faultD, fltO, fltP, fw, c1, wsC, hk, v2, v3, v4, mo2, ns_repr]
  · refine ⟨m, T, o13, o14, ?_, by rw [hT]; simp [faultD, h, fw]⟩
    simp [cFault, DE, he, h, faultD, fltO]
theorem cA_st (b : Int × Int × Int) (late : List Int) (f : Option (Str × Int × Int × Int)) (n : Nat) (xs : List W) (S : Store) (hx : xs.length ≤ 100) (hl : late.length ≤ 8) :
    cA (DE ns' ds ms t o6 o7 (some (.val (butP b))) (some (.val (.tup (late.map .int)))) o10 (some (.loc n)) (some (.val (fltO f))) o13 o14) (.lst xs :: S) =
      .nx (DE ns' ds ms t o6 o7 (some (.val (butP b))) (some (.val (.tup (late.map .int)))) o10 (some (.loc n)) (some (.val (fltO f))) o13 o14) (.lst (xs ++ [.val (scP (b, late, f))]) :: S) := by
  have c1 : xs.length < 100000 := by omega
  simp [cA, DE, c1, scP]
theorem cB_st (A : Cell) (ls : List Str) (T : Store) (m : Nat) (ws : List Str) (hT : T[m]? = some (wsC ws)) (hw : ws.length ≤ 100) (hb : ∀ w ∈ ws, w.length ≤ 200) (hx : ls.length ≤ 100) :
    cB (DE ns' ds ms t o6 o7 o8 o9 o10 (some (.loc (m + 2))) o12 o13 o14) (A :: wsC ls :: T) =
      .nx (DE ns' ds ms t o6 o7 o8 o9 o10 (some (.loc (m + 2))) o12 o13 o14) (A :: wsC (ls ++ [if ws = [] then ("-" : Str) else Txt.join " " ws]) :: T) := by
  have c1 : ls.length < 100000 := by omega
  have J := join_words (S := A :: wsC ls :: T) (n := m + 2) (a := " ") hT hb (by omega) (by decide +kernel)
  by_cases h : ws = []
  · subst h
    simp [cB, DE, hT]
    rw [J]
    simp [c1, wsC, hT]
  · have h2 : ¬ (ws.length : Int) = 0 := by
      intro q
      exact h (List.eq_nil_of_length_eq_zero (by omega))
    simp [cB, DE, hT]
    rw [J]
    simp [c1, wsC, h, hT]
end
def J2 (ns ds ms : List Int) (t : Nat) (k : Nat) (ρ : Z.Env) (S : Store) : Prop := ∃ (o6 o7 o8 o9 o10 o11 o12 o13 o14 : Option W) (T : Store), ρ = DE ns ds ms t o6 o7 o8 o9 o10 o11 o12 o13 o14 ∧
  S = .lst ((List.range k).map fun (i : Nat) => .val (scP (scD (gi ds i) (gi ds (10 + i)) (gi ds (20 + i)) t))) :: wsC ((List.range k).map fun (i : Nat) => lineOf (scD (gi ds i) (gi ds (10 + i)) (gi ds (20 + i)) t)) :: T
theorem b2_ok {ns ds ms : List Int} (hd : Dr ds 30) (t : Nat) (h0 : 1 ≤ t) (ht : t ≤ 8) : ∀ (k : Nat) ρ S, k < 8 → J2 ns ds ms t k ρ S → ((bindR (bindT (.nm 6) (.int (0 + (k : Int))) ρ) S).seq m_law_b2).goes (J2 ns ds ms t (k + 1)) := by
  intro k ρ S hk ⟨o6, o7, o8, o9, o10, o11, o12, o13, o14, T, e1, e2⟩
  subst e1 e2
  have a1 := hd.at (i := k) (by omega) (by omega)
  have a2 := hd.at (i := 10 + k) (by omega) (by omega)
  have a3 := hd.at (i := 20 + k) (by omega) (by omega)
  have r1 := hd.r (i := k) (by omega) (by omega)
  have r2 := hd.r (i := 10 + k) (by omega) (by omega)
  have r3 := hd.r (i := 20 + k) (by omega) (by omega)
  have kl : k ≤ 7 := by omega
  have law2 : m_law_b2 = sSeq (sAsg 7 (eBin ixW (eVar 1) (eVar 6))) (sSeq (sAsg 8 (eTup (aCons (eBin modW (eVar 7) (eCst (.int 2))) (aCons (eBin modW (eBin fdivW (eVar 7) (eCst (.int 2))) (eCst (.int 2))) (aCons (eBin modW (eBin fdivW (eVar 7) (eCst (.int 4))) (eCst (.int 2))) aNil)))))
    (sSeq (sAsg 9 (eCB tupleW (aCons (eLc (iRange1 (aCons (eVar 3) aNil)) [10] (.nm 10) cYes (eBin modW (eBin fdivW (eVar 7) (eBin shlW (eCst (.int 8)) (eVar 10))) (eCst (.int 2)))) aNil)))
    (sSeq (sAsg 11 (eLst aNil)) (sSeq (sFor (iRange1 (aCons (eCst (.int 3)) aNil)) (.nm 10) m_law_b1) (sSeq cLate (sSeq (sAsg 12 (eCst .non)) (sSeq cFault (sSeq cA cB)))))))) := rfl
  have et : rngOk 0 t = true := rngOk_of (by omega) (by omega) (by omega) (by omega)
  have et3 : rngOk 0 3 = true := rngOk_of (by omega) (by omega) (by omega) (by omega)
  have ht2 : t ≤ 100000 := by omega
  generalize hA : Cell.lst ((List.range k).map fun (i : Nat) => W.val (scP (scD (gi ds i) (gi ds (10 + i)) (gi ds (20 + i)) t))) = A
  generalize hB : wsC ((List.range k).map fun (i : Nat) => lineOf (scD (gi ds i) (gi ds (10 + i)) (gi ds (20 + i)) t)) = B
  have hS := scD_ok (gi ds k) (gi ds (10 + k)) (gi ds (20 + k)) t
  have lA := lcA ns ds ms t (some (.val (.int k))) (some (.val (butP (gi ds k % 2, gi ds k / 2 % 2, gi ds k / 4 % 2)))) o9 o10 o11 o12 o13 o14 (gi ds k) (A :: B :: T) ht
  obtain ⟨o10', l3⟩ := loop3 ns ds ms t (some (.val (.int k))) (some (.val (.int (gi ds k)))) (some (.val (.tup ((lateD (gi ds k) t).map .int)))) o10 o12 o13 o14 (gi ds k % 2) (gi ds k / 2 % 2) (gi ds k / 4 % 2) (T.length + 2) (A :: B :: (T ++ [wsC []])) (by simp)
  have bl : (bw (gi ds k % 2, gi ds k / 2 % 2, gi ds k / 4 % 2)).length ≤ 3 := by
    unfold bw; simp only [List.length_append]
    split <;> split <;> split <;> simp
  obtain ⟨m1, T1, p10, q1, q2⟩ := late_st ns ds ms t (some (.val (.int k))) (some (.val (.int (gi ds k)))) (some (.val (butP (gi ds k % 2, gi ds k / 2 % 2, gi ds k / 4 % 2)))) o10' o12 o13 o14 (lateD (gi ds k) t) A B (T ++ [wsC (bw (gi ds k % 2, gi ds k / 2 % 2, gi ds k / 4 % 2))]) T.length (bw (gi ds k % 2, gi ds k / 2 % 2, gi ds k / 4 % 2)) (by simp) (by simp [lateD]) hS.z ht (by omega)
  have ll : (lw (lateD (gi ds k) t)).length ≤ 9 := by
    unfold lw; split
    · simp
    · have := idx_len (lateD (gi ds k) t) 0
      simp [lateD] at this ⊢; omega
  obtain ⟨m2, T2, p13, p14, q3, q4⟩ := fault_st ns ds ms t (some (.val (.int (gi ds k)))) (some (.val (butP (gi ds k % 2, gi ds k / 2 % 2, gi ds k / 4 % 2)))) (some (.val (.tup ((lateD (gi ds k) t).map .int)))) p10 o13 o14 k (gi ds k) (gi ds (10 + k)) (gi ds (20 + k)) A B T1 m1 _ q2 (by simp; omega) a2 a3 r2.1 r2.2 r3.1 r3.2
  have ea : A = .lst ((List.range k).map fun (i : Nat) => W.val (scP (scD (gi ds i) (gi ds (10 + i)) (gi ds (20 + i)) t))) := hA.symm
  have eb : B = wsC ((List.range k).map fun (i : Nat) => lineOf (scD (gi ds i) (gi ds (10 + i)) (gi ds (20 + i)) t)) := hB.symm
  have q5 := cA_st ns ds ms t (some (.val (.int k))) (some (.val (.int (gi ds k)))) p10 p13 p14 (gi ds k % 2, gi ds k / 2 % 2, gi ds k / 4 % 2) (lateD (gi ds k) t) (faultD (gi ds (10 + k)) (gi ds (20 + k))) (m2 + 2) ((List.range k).map fun (i : Nat) => W.val (scP (scD (gi ds i) (gi ds (10 + i)) (gi ds (20 + i)) t))) (B :: T2) (by simp; omega) (by simp [lateD]; omega)
  have hwl := words_wl (by omega) hS
  have hwn := words_len (by omega) hS
  have ew : wordsOf (scD (gi ds k) (gi ds (10 + k)) (gi ds (20 + k)) t) = bw (gi ds k % 2, gi ds k / 2 % 2, gi ds k / 4 % 2) ++ lw (lateD (gi ds k) t) ++ fw (faultD (gi ds (10 + k)) (gi ds (20 + k))) := by simp [wordsOf, scD]
  rw [← ew] at q4
  have q6 := cB_st ns ds ms t (some (.val (.int k))) (some (.val (.int (gi ds k)))) (some (.val (butP (gi ds k % 2, gi ds k / 2 % 2, gi ds k / 4 % 2)))) (some (.val (.tup ((lateD (gi ds k) t).map .int)))) p10 (some (.val (fltO (faultD (gi ds (10 + k)) (gi ds (20 + k)))))) p13 p14 (.lst (((List.range k).map fun (i : Nat) => W.val (scP (scD (gi ds i) (gi ds (10 + i)) (gi ds (20 + i)) t))) ++ [.val (scP (scD (gi ds k) (gi ds (10 + k)) (gi ds (20 + k)) t))])) ((List.range k).map fun (i : Nat) => lineOf (scD (gi ds i) (gi ds (10 + i)) (gi ds (20 + i)) t)) T2 m2 _ q4 (by omega) (fun w hw => by have := (wl_all w (hwl w hw)).2.1.1; omega) (by simp; omega)
  rw [law2]
  have st1 : ((sAsg 7 (eBin ixW (eVar 1) (eVar 6))) (DE ns ds ms t (some (.val (.int k))) o7 o8 o9 o10 o11 o12 o13 o14) (A :: B :: T)) = .nx (DE ns ds ms t (some (.val (.int k))) (some (.val (.int (gi ds k)))) o8 o9 o10 o11 o12 o13 o14) (A :: B :: T) := by simp [DE, a1]
  have st2 : ((sAsg 8 (eTup (aCons (eBin modW (eVar 7) (eCst (.int 2))) (aCons (eBin modW (eBin fdivW (eVar 7) (eCst (.int 2))) (eCst (.int 2))) (aCons (eBin modW (eBin fdivW (eVar 7) (eCst (.int 4))) (eCst (.int 2))) aNil))))) (DE ns ds ms t (some (.val (.int k))) (some (.val (.int (gi ds k)))) o8 o9 o10 o11 o12 o13 o14) (A :: B :: T)) = .nx (DE ns ds ms t (some (.val (.int k))) (some (.val (.int (gi ds k)))) (some (.val (butP (gi ds k % 2, gi ds k / 2 % 2, gi ds k / 4 % 2)))) o9 o10 o11 o12 o13 o14) (A :: B :: T) := by simp [DE, butP]
  have st3 : ((sAsg 9 (eCB tupleW (aCons (eLc (iRange1 (aCons (eVar 3) aNil)) [10] (.nm 10) cYes (eBin modW (eBin fdivW (eVar 7) (eBin shlW (eCst (.int 8)) (eVar 10))) (eCst (.int 2)))) aNil))) (DE ns ds ms t (some (.val (.int k))) (some (.val (.int (gi ds k)))) (some (.val (butP (gi ds k % 2, gi ds k / 2 % 2, gi ds k / 4 % 2)))) o9 o10 o11 o12 o13 o14) (A :: B :: T)) = .nx (DE ns ds ms t (some (.val (.int k))) (some (.val (.int (gi ds k)))) (some (.val (butP (gi ds k % 2, gi ds k / 2 % 2, gi ds k / 4 % 2)))) (some (.val (.tup ((lateD (gi ds k) t).map .int)))) o10 o11 o12 o13 o14) (A :: B :: T) := by
    unfold DE at lA ⊢
    simp [et, ht2]
    rw [lA]
    simp
  have st4 : ((sAsg 11 (eLst aNil)) (DE ns ds ms t (some (.val (.int k))) (some (.val (.int (gi ds k)))) (some (.val (butP (gi ds k % 2, gi ds k / 2 % 2, gi ds k / 4 % 2)))) (some (.val (.tup ((lateD (gi ds k) t).map .int)))) o10 o11 o12 o13 o14) (A :: B :: T)) = .nx (DE ns ds ms t (some (.val (.int k))) (some (.val (.int (gi ds k)))) (some (.val (butP (gi ds k % 2, gi ds k / 2 % 2, gi ds k / 4 % 2)))) (some (.val (.tup ((lateD (gi ds k) t).map .int)))) o10 (some (.loc (T.length + 2))) o12 o13 o14) (A :: B :: (T ++ [wsC []])) := by simp [DE, wsC]
  have es : (A :: B :: (T ++ [wsC []])).set (T.length + 2) (wsC (bw (gi ds k % 2, gi ds k / 2 % 2, gi ds k / 4 % 2))) = A :: B :: (T ++ [wsC (bw (gi ds k % 2, gi ds k / 2 % 2, gi ds k / 4 % 2))]) := by simp
  have st5 : ((sFor (iRange1 (aCons (eCst (.int 3)) aNil)) (.nm 10) m_law_b1) (DE ns ds ms t (some (.val (.int k))) (some (.val (.int (gi ds k)))) (some (.val (butP (gi ds k % 2, gi ds k / 2 % 2, gi ds k / 4 % 2)))) (some (.val (.tup ((lateD (gi ds k) t).map .int)))) o10 (some (.loc (T.length + 2))) o12 o13 o14) (A :: B :: (T ++ [wsC []]))) = .nx (DE ns ds ms t (some (.val (.int k))) (some (.val (.int (gi ds k)))) (some (.val (butP (gi ds k % 2, gi ds k / 2 % 2, gi ds k / 4 % 2)))) (some (.val (.tup ((lateD (gi ds k) t).map .int)))) o10' (some (.loc (T.length + 2))) o12 o13 o14) (A :: B :: (T ++ [wsC (bw (gi ds k % 2, gi ds k / 2 % 2, gi ds k / 4 % 2))])) := by
    rw [← es]
    refine Eq.trans ?_ l3
    simp [DE, et3, butP]
  have st6 := fun (ρ : Z.Env) (o12 : Option W) (S : Store) => (show sAsg 12 (eCst .non) (DE ns ds ms t (some (.val (.int k))) (some (.val (.int (gi ds k)))) (some (.val (butP (gi ds k % 2, gi ds k / 2 % 2, gi ds k / 4 % 2)))) (some (.val (.tup ((lateD (gi ds k) t).map .int)))) p10 (some (.loc (m1 + 2))) o12 o13 o14) S = .nx (DE ns ds ms t (some (.val (.int k))) (some (.val (.int (gi ds k)))) (some (.val (butP (gi ds k % 2, gi ds k / 2 % 2, gi ds k / 4 % 2)))) (some (.val (.tup ((lateD (gi ds k) t).map .int)))) p10 (some (.loc (m1 + 2))) (some (.val .non)) o13 o14) S from rfl)
  have ez : (0 : Int) + (k : Int) = k := by omega
  have en : bindR (bindT (.nm 6) (.int (0 + (k : Int))) (DE ns ds ms t o6 o7 o8 o9 o10 o11 o12 o13 o14)) (A :: B :: T) = .nx (DE ns ds ms t (some (.val (.int k))) o7 o8 o9 o10 o11 o12 o13 o14) (A :: B :: T) := by rw [ez]; rfl
  rw [en]
  simp only [rs_nx, sSeq_ap]
  rw [st1]; simp only [rs_nx, sSeq_ap]
  rw [st2]; simp only [rs_nx, sSeq_ap]
  rw [st3]; simp only [rs_nx, sSeq_ap]
  rw [st4]; simp only [rs_nx, sSeq_ap]
  rw [st5]; simp only [rs_nx, sSeq_ap]
  rw [q1]; simp only [rs_nx, sSeq_ap]
  rw [st6 (DE ns ds ms t o6 o7 o8 o9 o10 o11 o12 o13 o14)]; simp only [rs_nx, sSeq_ap]
  rw [q3]; simp only [rs_nx, sSeq_ap]
  rw [ea, q5]; simp only [rs_nx, sSeq_ap]
  rw [eb]
  rw [show ((gi ds k % 2, gi ds k / 2 % 2, gi ds k / 4 % 2), lateD (gi ds k) t, faultD (gi ds (10 + k)) (gi ds (20 + k))) = scD (gi ds k) (gi ds (10 + k)) (gi ds (20 + k)) t from rfl, q6]
  show J2 ns ds ms t (k + 1) _ _
  refine ⟨_, _, _, _, _, _, _, _, _, T2, rfl, ?_⟩
  rw [List.range_succ]
  simp [wsC, lineOf]
end Gk71
end
-- part M71h
section
set_option Elab.async false
set_option linter.all false
set_option maxRecDepth 100000
set_option autoImplicit false
namespace Gk71
open PySem PySem.Spec PyProof.Rows L2 Z
noncomputable section
def law_5 : FS := (sFor (iRange1 (aCons (eBin modW (eBin ixW (eVar 2) (eCst (.int 1))) (eCst (.int 9))) aNil)) (.nm 6) m_law_b2)
def law_6 : FS := (sAsg 15 (eM1 joinW (eCst (.str "\n")) (eVar 5)))
def law_7 : FS := (sAsg 16 (eLc (iSeq (eVar 4)) [17] (.nm 17) cYes (eVar 17)))
def law_8 : FS := (sIf (tOrB (tNotB (tstB (eCall 2 (m_l_like 7) (aCons (eCall 1 m_format_play (aCons (eVar 4) aNil)) (aCons (eVar 15) aNil))))) (tNotB (tstB (eCall 2 (m_l_like 7) (aCons (eCall 2 m_l_told (aCons (eVar 15) (aCons (eVar 3) aNil))) (aCons (eVar 4) aNil)))))) (sRet (eCst (.bl false))) sSkip)
def law_9 : FS := (sIf (tstB (eBin (eqW true) (eLc (iSeq (eVar 4)) [17] (.nm 17) cYes (eVar 17)) (eVar 16))) (sRet (eCst (.bl false))) sSkip)
def law_10 : FS := (sIf (tNotB (tstB (eCall 2 (m_l_like 7) (aCons (eCall 2 m_l_told (aCons (eCst (.str "")) (aCons (eVar 3) aNil))) (aCons (eLstP aNil) aNil))))) (sRet (eCst (.bl false))) sSkip)
def law_11 : FS := (sAsg 18 (eLst (aCons (eCst (.str "stop go")) (aCons (eCst (.str "go go")) (aCons (eCst (.str "late")) (aCons (eBin addW (eCst (.str "late ")) (eCB strW (aCons (eVar 3) aNil))) (aCons (eCst (.str "late 0 0")) (aCons (eCst (.str "late 00")) (aCons (eCst (.str "late x")) (aCons (eCst (.str "go late")) (aCons (eCst (.str "fault")) (aCons (eCst (.str "fault sensor 0 0")) (aCons (eCst (.str "fault sensor 0 0 2")) aNil)))))))))))))
def law_12 : FS := (sAsg 18 (eBin addLW (eVar 18) (eLstP (aCons (eCst (.str "fault present 1 0 1")) (aCons (eCst (.str "fault wheel 0 0 1")) (aCons (eCst (.str "fault brake 0 0 1 1")) (aCons (eCst (.str "fault brake 0 0 1 go")) (aCons (eCst (.str "- go")) (aCons (eCst (.str "go -")) (aCons (eCst (.str "--")) (aCons (eCst (.str "open stop")) (aCons (eCst (.str "Go")) (aCons (eCst (.str "go  stop")) (aCons (eCst (.str " go")) aNil))))))))))))))
def law_13 : FS := (sAsg 18 (eBin addLW (eVar 18) (eLstP (aCons (eCst (.str "late 0 go")) (aCons (eCst (.str "fault sensor 01 0 1")) (aCons (eCst (.str "go ")) (aCons (eCst (.str "late 0  fault brake 0 0 1")) aNil)))))))
def law_14 : FS := (sIf (tstB (eBin gtW (eVar 3) (eCst (.int 1)))) (sExpr (eBM "list" appendW (eVar 18) (aCons (eCst (.str "late 1 0")) aNil))) sSkip)
def law_15 : FS := (sAsg 18 (eBin addLW (eVar 18) (eLstP (aCons (eCst (.str "halt sensor 0 0 1")) (aCons (eCst (.str "go halt brake 0 0 1")) (aCons (eCst (.str "late 0 late 0")) (aCons (eCst (.str "fault brake 0 0 1 fault brake 0 0 1")) aNil)))))))
def law_16 : FS := (sFor (iSeq (eVar 18)) (.nm 19) m_law_b3)
def law_17 : FS := (sAsg 20 (eBin modW (eBin ixW (eVar 2) (eCst (.int 2))) (eBin addW (eCB lenW (aCons (eVar 5) aNil)) (eCst (.int 1)))))
def law_18 : FS := (sAsg 21 (eCall 2 m_l_told (aCons (eM1 joinW (eCst (.str "\n")) (eBin addW (eBin addW (eBin addW (eSl (eVar 5) pNone (pSome (eVar 20))) (eLstP (aCons (eBin ixW (eVar 18) (eBin modW (eBin ixW (eVar 2) (eCst (.int 3))) (eCB lenW (aCons (eVar 18) aNil)))) aNil))) (eSl (eVar 5) (pSome (eVar 20)) pNone)) (eLstP (aCons (eCst (.str "?")) aNil)))) (aCons (eVar 3) aNil))))
def law_19 : FS := (sIf (tOrB (tstB (eUn (isiW "list") (eVar 21))) (tNotB (tstB (eCall 2 (m_l_equal 3) (aCons (eVar 21) (aCons (eBin addW (eVar 20) (eCst (.int 1))) aNil)))))) (sRet (eCst (.bl false))) sSkip)
def law_20 : FS := (sAsg 21 (eCall 2 m_l_told (aCons (eBin addW (eVar 15) (eCst (.str "\n"))) (aCons (eVar 3) aNil))))
def law_21 : FS := (sRet (eOr (eBin (eqW false) (eCB lenW (aCons (eVar 5) aNil)) (eCst (.int 0))) (eCall 2 (m_l_equal 3) (aCons (eVar 21) (aCons (eBin addW (eCB lenW (aCons (eVar 5) aNil)) (eCst (.int 1))) aNil)))))
def lawT : FS := sSeq law_5 (sSeq law_6 (sSeq law_7 (sSeq law_8 (sSeq law_9 (sSeq law_10 (sSeq law_11 (sSeq law_12 (sSeq law_13 (sSeq law_14 (sSeq law_15 (sSeq law_16 (sSeq law_17 (sSeq law_18 (sSeq law_19 (sSeq law_20 (law_21))))))))))))))))
end
theorem law_eq : m_law = runP 22 (sSeq (sAsg 1 (eCall 2 m_l_draws (aCons (eCall 2 m_l_cell (aCons (eVar 0) (aCons (eCst (.int 0)) aNil))) (aCons (eCst (.int 30)) aNil)))) (sSeq (sAsg 2 (eCall 2 m_l_draws (aCons (eCall 2 m_l_cell (aCons (eVar 0) (aCons (eCst (.int 1)) aNil))) (aCons (eCst (.int 20)) aNil)))) (sSeq (sAsg 3 (eBin addW (eCst (.int 1)) (eBin modW (eBin ixW (eVar 2) (eCst (.int 0))) (eCst (.int 8))))) (sSeq (sAsg 4 (eLst aNil)) (sSeq (sAsg 5 (eLst aNil)) (lawT)))))) := rfl
/-! ### what is told -/
theorem told_lines {t : Int} (h0 : 1 ≤ t) (h1 : t ≤ 1000) (lines : List Str) (hne : lines ≠ []) (hn1 : lines ≠ [("" : Str)]) (hl : ∀ l ∈ lines, LnOk l ∧ 10 ∉ TL.tl l) (hn : lines.length ≤ 50) :
    m_l_told [.str (Txt.join "\n" lines), .int t] = .ok (rdLines t lines []) := by
  have es : Txt.split (Txt.join "\n" lines) "\n" = lines := TL.split_join (s := 10) (S := []) tl_nl (by decide +kernel) hne fun p hp => (hl p hp).2
  have he : Txt.join "\n" lines ≠ "" := by
    intro q
    rw [q] at es
    have : Txt.split "" "\n" = [("" : Str)] := by decide +kernel
    rw [this] at es
    exact hn1 es.symm
  have ln := (join_len "\n" lines 10000 fun w hw => (hl w hw).1.l).1
  have l1 : ("\n" : Str).length = 1 := by decide +kernel
  have e2 : lines.length * (10000 + 1) ≤ 50 * (10000 + 1) := Nat.mul_le_mul_right _ hn
  rw [l1] at ln
  have := told_ok (Txt.join "\n" lines) t h0 h1 he (by omega) (by rw [es]; exact fun l hl' => (hl l hl').1) (by rw [es]; omega)
  rw [es] at this
  exact this
theorem rdLines_good {t : Int} (ht : t ≤ 8) (rest : List Str) : ∀ (good acc : List ScT), (∀ s ∈ good, ScOk t s) → rdLines t (good.map lineOf ++ rest) acc = rdLines t rest (acc ++ good)
  | [], acc, _ => by simp
  | s :: ss, acc, h => by
    have e := line_rd ht (h s List.mem_cons_self)
    simp only [List.map_cons, List.cons_append, rdLines, e]
    rw [rdLines_good ht rest ss _ fun x hx => h x (List.mem_cons_of_mem _ hx)]
    simp
def badL (t : Nat) : List Str := ((([("stop go" : Str), "go go", "late", "late " ++ ns (t : Int), "late 0 0", "late 00", "late x", "go late", "fault", "fault sensor 0 0", "fault sensor 0 0 2"] ++
  [("fault present 1 0 1" : Str), "fault wheel 0 0 1", "fault brake 0 0 1 1", "fault brake 0 0 1 go", "- go", "go -", "--", "open stop", "Go", "go  stop", " go"]) ++
  [("late 0 go" : Str), "fault sensor 01 0 1", "go ", "late 0  fault brake 0 0 1"]) ++ (if 1 < t then [("late 1 0" : Str)] else [])) ++
  [("halt sensor 0 0 1" : Str), "go halt brake 0 0 1", "late 0 late 0", "fault brake 0 0 1 fault brake 0 0 1"]
theorem bad_all : ∀ t ∈ List.range' 1 8, ∀ b ∈ badL t, rdScan b (t : Int) = none ∧ lnB b = true ∧ 10 ∉ TL.tl b ∧ b.length ≤ 100 := by decide +kernel
theorem q_ok : LnOk "?" ∧ 10 ∉ TL.tl "?" := ⟨lnB_ok (by decide +kernel), by decide +kernel⟩
theorem e_ok : LnOk "" ∧ 10 ∉ TL.tl "" := ⟨lnB_ok (by decide +kernel), by decide +kernel⟩
theorem e_none : ∀ t ∈ List.range' 1 8, rdScan "" (t : Int) = none := by decide +kernel
theorem bad_told {t : Nat} (h0 : 1 ≤ t) (ht : t ≤ 8) {b : Str} (hb : b ∈ badL t) : m_l_told [.str (Txt.join "\n" [b, "?"]), .int t] = .ok (.int 1) := by
  obtain ⟨b1, b2, b3, b4⟩ := bad_all t (List.mem_range'_1.mpr ⟨h0, by omega⟩) b hb
  rw [told_lines (by omega) (by omega) [b, "?"] (by simp) (by simp) (fun l hl => by
    simp only [List.mem_cons, List.not_mem_nil, or_false] at hl
    rcases hl with rfl | rfl
    · exact ⟨lnB_ok b2, b3⟩
    · exact q_ok) (by simp)]
  simp [rdLines, b1]
theorem at_told {t : Nat} (h0 : 1 ≤ t) (ht : t ≤ 8) {b : Str} (hb : b ∈ badL t) (ss : List ScT) (hs : ∀ s ∈ ss, ScOk t s) (k : Nat) (hk : k ≤ ss.length) (hl : ss.length ≤ 8) :
    m_l_told [.str (Txt.join "\n" ((ss.map lineOf).take k ++ [b] ++ (ss.map lineOf).drop k ++ [("?" : Str)])), .int t] = .ok (.int ((k : Int) + 1)) := by
  obtain ⟨b1, b2, b3, b4⟩ := bad_all t (List.mem_range'_1.mpr ⟨h0, by omega⟩) b hb
  rw [told_lines (by omega) (by omega) _ (by simp) (by
    intro q
    have := congrArg List.length q
    simp at this
    omega) (fun l hl => by
    simp only [List.mem_append, List.mem_singleton] at hl
    have good : ∀ l ∈ ss.map lineOf, LnOk l ∧ 10 ∉ TL.tl l := fun l hl => by
      obtain ⟨s, hs', rfl⟩ := List.mem_map.mp hl
      exact ⟨line_ok (by omega) (hs s hs'), line_nl (by omega) (hs s hs')⟩
    rcases hl with ((hl | rfl) | hl) | rfl
    · exact good l (List.mem_of_mem_take hl)
    · exact ⟨lnB_ok b2, b3⟩
    · exact good l (List.mem_of_mem_drop hl)
    · exact q_ok) (by simp; omega)]
  rw [← List.map_take, List.append_assoc, List.append_assoc, rdLines_good (by omega) _ (ss.take k) [] fun s h => hs s (List.mem_of_mem_take h)]
  simp [rdLines, b1, Nat.min_eq_left hk]
theorem join_end {ws : List Str} (h : ws ≠ []) : Txt.join "\n" (ws ++ [("" : Str)]) = Txt.join "\n" ws ++ "\n" := by
  rw [TL.join_eq, TL.join_eq]
  have e0 : ∀ x : Str, x ++ "" = x := fun x => by
    apply str_inj
    show (Str.append x "").cps.toList = _
    have : ("" : Str).cps = #[] := by decide +kernel
    simp [Str.append, this]
  induction ws with
  | nil => exact (h rfl).elim
  | cons w ws ih =>
    cases ws with
    | nil => show w ++ "\n" ++ "" = w ++ "\n"; exact e0 _
    | cons v ws =>
      have := ih (by simp)
      show w ++ "\n" ++ Str.join "\n" (v :: ws ++ [("" : Str)]) = w ++ "\n" ++ Str.join "\n" (v :: ws) ++ "\n"
      rw [this]; simp only [str_append_assoc]
theorem end_told {t : Nat} (h0 : 1 ≤ t) (ht : t ≤ 8) (ss : List ScT) (hs : ∀ s ∈ ss, ScOk t s) (hl : ss.length ≤ 8) :
    ∃ p, m_l_told [.str (Txt.join "\n" (ss.map lineOf) ++ "\n"), .int t] = .ok p ∧ (ss ≠ [] → p = .int ((ss.length : Int) + 1)) := by
  have en := e_none t (List.mem_range'_1.mpr ⟨h0, by omega⟩)
  cases ss with
  | nil =>
    have e : Txt.join "\n" (([] : List ScT).map lineOf) ++ "\n" = Txt.join "\n" [("" : Str), ""] := by decide +kernel
    refine ⟨rdLines t [("" : Str), ""] [], ?_, fun h => (h rfl).elim⟩
    rw [e]
    exact told_lines (by omega) (by omega) _ (by simp) (by simp) (fun l hl => by
      simp only [List.mem_cons, List.not_mem_nil, or_false] at hl
      rcases hl with rfl | rfl <;> exact e_ok) (by simp)
  | cons s ss =>
    refine ⟨.int (((s :: ss).length : Int) + 1), ?_, fun _ => rfl⟩
    rw [← join_end (by simp)]
    rw [told_lines (by omega) (by omega) _ (by simp) (by simp) (fun l hl => by
      rcases List.mem_append.mp hl with hl | hl
      · obtain ⟨s', hs', rfl⟩ := List.mem_map.mp hl
        exact ⟨line_ok (by omega) (hs s' hs'), line_nl (by omega) (hs s' hs')⟩
      · rw [List.mem_singleton.mp hl]; exact e_ok) (by simp at hl ⊢; omega)]
    rw [rdLines_good (by omega) _ (s :: ss) [] hs]
    simp [rdLines, en]
theorem good_told {t : Nat} (h0 : 1 ≤ t) (ht : t ≤ 8) (ss : List ScT) (hs : ∀ s ∈ ss, ScOk t s) (hl : ss.length ≤ 8) :
    m_l_told [.str (Txt.join "\n" (ss.map lineOf)), .int t] = .ok (.lst (ss.map scP)) := by
  cases ss with
  | nil =>
    have e : Txt.join "\n" (([] : List ScT).map lineOf) = "" := by decide +kernel
    rw [e]; exact told_nil _
  | cons s ss =>
    rw [told_lines (by omega) (by omega) _ (by simp) (by
      intro q
      rw [List.map_cons, List.cons.injEq] at q
      have en := e_none t (List.mem_range'_1.mpr ⟨h0, by omega⟩)
      have := line_rd (by omega) (hs s List.mem_cons_self)
      rw [q.1, en] at this
      cases this) (fun l hl => by
      obtain ⟨s', hs', rfl⟩ := List.mem_map.mp hl
      exact ⟨line_ok (by omega) (hs s' hs'), line_nl (by omega) (hs s' hs')⟩) (by simp at hl ⊢; omega)]
    have := rdLines_good (t := t) (by omega) [] (s :: ss) [] hs
    rw [List.append_nil] at this
    rw [this]; rfl
theorem like_sc (s : ScT) (hl : s.2.1.length ≤ 8) : m_l_like 6 [scP s, scP s] = .ok (.bl true) := by
  refine like_tup 5 _ (by simp) fun p hp => ?_
  simp only [List.mem_cons, List.not_mem_nil, or_false] at hp
  rcases hp with rfl | rfl | rfl
  · refine like_tup 4 _ (by simp) fun p hp => ?_
    simp only [List.mem_cons, List.not_mem_nil, or_false] at hp
    rcases hp with rfl | rfl | rfl <;> exact like_int 3 _
  · refine like_tup 4 _ (by simp; omega) fun p hp => ?_
    obtain ⟨i, _, rfl⟩ := List.mem_map.mp hp
    exact like_int 3 _
  · cases s.2.2 with
    | none => exact like_non 4
    | some f =>
      refine like_tup 4 _ (by simp) fun p hp => ?_
      simp only [List.mem_cons, List.not_mem_nil, or_false] at hp
      rcases hp with rfl | rfl
      · refine like_tup 3 _ (by simp) fun p hp => ?_
        simp only [List.mem_cons, List.not_mem_nil, or_false] at hp
        rcases hp with rfl | rfl | rfl
        · exact like_str 2 _
        · exact like_int 2 _
        · exact like_int 2 _
      · exact like_int 3 _
theorem like_scs (ss : List ScT) (h : ∀ s ∈ ss, s.2.1.length ≤ 8) (hl : ss.length ≤ 8) : m_l_like 7 [.lst (ss.map scP), .lst (ss.map scP)] = .ok (.bl true) :=
  like_lst 6 _ (by simp; omega) fun p hp => by
    obtain ⟨s, hs, rfl⟩ := List.mem_map.mp hp
    exact like_sc s (h s hs)
end Gk71
end
-- part M71i
section
set_option Elab.async false
set_option linter.all false
set_option maxRecDepth 100000
set_option autoImplicit false
namespace Gk71
open PySem PySem.Spec PyProof.Rows L2 Z
def QE (nl ds ms : List Int) (t : Nat) (os : List (Option W)) (o15 o16 o17 o18 o19 o20 o21 : Option W) : Z.Env := [some (.val (.scr nl)), some (.val (.lst (ds.map .int))), some (.val (.lst (ms.map .int))), some (.val (.int t)), some (.loc 0), some (.loc 1)] ++ os ++ [o15, o16, o17, o18, o19, o20, o21]
section
variable {nl ds ms : List Int} {t : Nat} {o6 o7 o8 o9 o10 o11 o12 o13 o14 o15 o16 o17 o18 o19 o20 o21 : Option W}
theorem scs_len {t : Nat} (ht : t ≤ 8) {ss : List ScT} (hs : ∀ s ∈ ss, ScOk t s) : ∀ s ∈ ss, s.2.1.length ≤ 8 := fun s h => by have := (hs s h).l; omega
theorem sh_sc {t : Nat} {s : ScT} (h : ScOk t s) : shP 5 (scP s) = true := by
  obtain ⟨⟨b0, b1, b2⟩, late, f⟩ := s
  have h1 : (late.map P.int).all (shP 3) = true := by rw [List.all_eq_true]; intro p hp; obtain ⟨i, _, rfl⟩ := List.mem_map.mp hp; simp
  cases f with
  | none => simp [scP, butP, fltO]
  | some f =>
    have F := h.f f rfl
    have hk : PyData.strOk f.1 = true := by rcases F.k with e | e | e <;> rw [e] <;> decide +kernel
    simp [scP, butP, fltO, fltP, hk]
theorem sh_scs {t : Nat} {ss : List ScT} (hs : ∀ s ∈ ss, ScOk t s) : shP 6 (.lst (ss.map scP)) = true := by
  rw [shP_lst, List.all_eq_true]
  intro p hp
  obtain ⟨s, h, rfl⟩ := List.mem_map.mp hp
  exact sh_sc (hs s h)
/-- the text, what is read, the empty text -/
theorem partA (h0 : 1 ≤ t) (ht : t ≤ 8) (ss : List ScT) (hs : ∀ s ∈ ss, ScOk t s) (hl : ss.length ≤ 8) (T : Store) (K : FS) :
    (sSeq law_6 (sSeq law_7 (sSeq law_8 (sSeq law_9 (sSeq law_10 K))))) (QE nl ds ms t [o6, o7, o8, o9, o10, o11, o12, o13, o14] o15 o16 o17 o18 o19 o20 o21) (.lst (ss.map (W.val ∘ scP)) :: wsC (ss.map lineOf) :: T) =
      K (QE nl ds ms t [o6, o7, o8, o9, o10, o11, o12, o13, o14] (some (.val (.str (Txt.join "\n" (ss.map lineOf))))) (some (.val (.lst (ss.map scP)))) o17 o18 o19 o20 o21) (.frz (.lst (ss.map scP)) :: wsC (ss.map lineOf) :: T) := by
  have hw : ∀ w ∈ ss.map lineOf, w.length ≤ 200 := fun w hw => by
    obtain ⟨s, h, rfl⟩ := List.mem_map.mp hw
    have := line_len (by omega) (hs s h); omega
  have J := join_words (S := .lst (ss.map (W.val ∘ scP)) :: wsC (ss.map lineOf) :: T) (n := 1) (a := "\n") rfl hw (by simp; omega) (by decide +kernel)
  have pf := play_fmt (t := t) (by omega) (by omega) ss hs hl
  have gt := good_told h0 ht ss hs hl
  have lk := like_scs ss (scs_len ht hs) hl
  have l0 := like_lst 6 [] (by simp) (by simp)
  have er := eqP_refl 6 (sh_scs hs)
  have tn := told_nil t
  have ls := like_str 6 (Txt.join "\n" (ss.map lineOf))
  have hl2 : ss.length ≤ 100000 := by omega
  have vs : valAll (ss.map (W.val ∘ scP)) = some (ss.map scP) := by
    have : ss.map (W.val ∘ scP) = (ss.map scP).map .val := by rw [List.map_map]
    rw [this, valAll_ps]
  simp only [sSeq_ap, law_6, QE]
  simp
  rw [J]
  simp [law_7, law_8, law_9, law_10, vs, hl2, pf, gt, lk, l0, er, tn, ls, lc_id]
/-- the bad lines -/
theorem partB (h0 : 1 ≤ t) (ht : t ≤ 8) (A B : Cell) (T : Store) (K : FS) :
    ∃ n T', (sSeq law_11 (sSeq law_12 (sSeq law_13 (sSeq law_14 (sSeq law_15 K))))) (QE nl ds ms t [o6, o7, o8, o9, o10, o11, o12, o13, o14] o15 o16 o17 o18 o19 o20 o21) (A :: B :: T) =
      K (QE nl ds ms t [o6, o7, o8, o9, o10, o11, o12, o13, o14] o15 o16 o17 (some (.loc (n + 2))) o19 o20 o21) (A :: B :: T') ∧ T'[n]? = some (wsC (badL t)) := by
  have v : t < 18446744073709551616 := by omega
  have e : ("late " : Str).length + (ns (t : Int)).length ≤ 1000000 := by
    have := ns_len (i := (t : Int)) (by omega) (by omega)
    have : ("late " : Str).length = 5 := by decide +kernel
    omega
  refine ⟨T.length + 3, T ++ [wsC ([("stop go" : Str), "go go", "late", "late " ++ ns (t : Int), "late 0 0", "late 00", "late x", "go late", "fault", "fault sensor 0 0", "fault sensor 0 0 2"])] ++ [wsC ([("stop go" : Str), "go go", "late", "late " ++ ns (t : Int), "late 0 0", "late 00", "late x", "go late", "fault", "fault sensor 0 0", "fault sensor 0 0 2"] ++
  [("fault present 1 0 1" : Str), "fault wheel 0 0 1", "fault brake 0 0 1 1", "fault brake 0 0 1 go", "- go", "go -", "--", "open stop", "Go", "go  stop", " go"])] ++ [wsC (([("stop go" : Str), "go go", "late", "late " ++ ns (t : Int), "late 0 0", "late 00", "late x", "go late", "fault", "fault sensor 0 0", "fault sensor 0 0 2"] ++
  [("fault present 1 0 1" : Str), "fault wheel 0 0 1", "fault brake 0 0 1 1", "fault brake 0 0 1 go", "- go", "go -", "--", "open stop", "Go", "go  stop", " go"]) ++
  [("late 0 go" : Str), "fault sensor 01 0 1", "go ", "late 0  fault brake 0 0 1"] ++ (if 1 < t then [("late 1 0" : Str)] else []))] ++ [wsC (badL t)], ?_, by simp⟩
  simp only [sSeq_ap, law_11, QE]
  simp [v, ns_repr, e]
  simp [law_12]
  simp [law_13]
  by_cases h : 1 < t
  · have hI : (1 : Int) < (t : Int) := by omega
    simp [law_14, hI]
    simp [law_15, hI, h, wsC, badL]
  · have hI : ¬ (1 : Int) < (t : Int) := by omega
    simp [law_14, hI]
    simp [law_15, hI, h, wsC, badL]
theorem loopB (h0 : 1 ≤ t) (ht : t ≤ 8) (S : Store) : ∀ (xs : List Str) (o19 : Option W), (∀ b ∈ xs, b ∈ badL t) → ∃ o19', forGo (.nm 19) m_law_b3 (xs.map .str) (QE nl ds ms t [o6, o7, o8, o9, o10, o11, o12, o13, o14] o15 o16 o17 o18 o19 o20 o21) S = .nx (QE nl ds ms t [o6, o7, o8, o9, o10, o11, o12, o13, o14] o15 o16 o17 o18 o19' o20 o21) S
  | [], o19, _ => ⟨o19, rfl⟩
  | b :: xs, o19, hb => by
    obtain ⟨o19', ih⟩ := loopB h0 ht S xs (some (.val (.str b))) fun x hx => hb x (List.mem_cons_of_mem _ hx)
    refine ⟨o19', ?_⟩
    have hm := hb b List.mem_cons_self
    have bt := bad_told h0 ht hm
    have bl := (bad_all t (List.mem_range'_1.mpr ⟨h0, by omega⟩) b hm).2.2.2
    have l1 : ("\n" : Str).length = 1 := by decide +kernel
    have l2 : ("?" : Str).length = 1 := by decide +kernel
    have li := like_int 6 1
    have sz : b.length + (1 + 0) + 2 ≤ 1000000 := by omega
    have eb : (bindR (bindT (.nm 19) (.str b) (QE nl ds ms t [o6, o7, o8, o9, o10, o11, o12, o13, o14] o15 o16 o17 o18 o19 o20 o21)) S).seq m_law_b3 = .nx (QE nl ds ms t [o6, o7, o8, o9, o10, o11, o12, o13, o14] o15 o16 o17 o18 (some (.val (.str b))) o20 o21) S := by
      have sz2 : b.length + 1 + 2 ≤ 1000000 := by omega
      simp [QE, m_law_b3, l1, l2, bt, li, sz2]
    rw [List.map_cons, forGo_cons, eb, rd_nx]
    exact ih
theorem sliceW_words {S : Store} {n : Nat} {ws : List Str} (h : S[n]? = some (wsC ws)) (lo hi : Option Int) : sliceW (.loc n) lo hi S = .ok (.val (.lst ((cutA ws lo hi).map .str))) S := by
  have e : seqW S (.loc n) = some (ws.map (W.val ∘ P.str)) := by unfold seqW; simp only [h, wsC]
  show (match seqW S (.loc n) with
    | some ws => (doFrzs (cutA ws lo hi) S).bind fun ps S2 => RE.ok (W.val (.lst ps)) S2
    | none => .bad) = _
  rw [e]
  simp only [cutA_map]
  have : (cutA ws lo hi).map (W.val ∘ P.str) = ((cutA ws lo hi).map P.str).map .val := by rw [List.map_map]
  rw [this, doFrzs_vals]; rfl
theorem partC (h0 : 1 ≤ t) (ht : t ≤ 8) (hm : Dr ms 20) (ss : List ScT) (hs : ∀ s ∈ ss, ScOk t s) (hl : ss.length ≤ 8) (n : Nat) (T : Store) (hT : T[n]? = some (wsC (badL t))) :
    ((sSeq law_16 (sSeq law_17 (sSeq law_18 (sSeq law_19 (sSeq law_20 law_21))))) (QE nl ds ms t [o6, o7, o8, o9, o10, o11, o12, o13, o14] (some (.val (.str (Txt.join "\n" (ss.map lineOf))))) o16 o17 (some (.loc (n + 2))) o19 o20 o21) (.frz (.lst (ss.map scP)) :: wsC (ss.map lineOf) :: T)).fin = .ok (.bl true) := by
  obtain ⟨o19', lb⟩ := loopB (nl := nl) (ds := ds) (ms := ms) (o6 := o6) (o7 := o7) (o8 := o8) (o9 := o9) (o10 := o10) (o11 := o11) (o12 := o12) (o13 := o13) (o14 := o14) (o15 := some (.val (.str (Txt.join "\n" (ss.map lineOf))))) (o16 := o16) (o17 := o17) (o18 := some (.loc (n + 2))) (o20 := o20) (o21 := o21) h0 ht (.frz (.lst (ss.map scP)) :: wsC (ss.map lineOf) :: T.set n (.frz (.lst ((badL t).map .str)))) (badL t) o19 fun b h => h
  have a2 := hm.at (i := 2) (by omega) (by omega)
  have a3 := hm.at (i := 3) (by omega) (by omega)
  have r2 := hm.r (i := 2) (by omega) (by omega)
  have r3 := hm.r (i := 3) (by omega) (by omega)
  simp only [sSeq_ap, law_16]
  simp [QE, hT] at lb ⊢
  rw [lb]
  obtain ⟨k, hk⟩ := Int.eq_ofNat_of_zero_le (show 0 ≤ gi ms 2 % ((ss.length : Int) + 1) from Int.emod_nonneg _ (by omega))
  have hk2 : k ≤ ss.length := by
    have := Int.emod_lt_of_pos (gi ms 2) (show 0 < (ss.length : Int) + 1 by omega)
    omega
  have p1 : (0 : Int) < (ss.length : Int) + 1 := by omega
  have p2 : (ss.length : Int) + 1 < 18446744073709551616 := by omega
  simp [law_17, a2, hk, p1, p2]
  have bn : (badL t).length = 30 ∨ (badL t).length = 31 := by
    unfold badL; by_cases h : 1 < t <;> simp [h]
  have bp : (0 : Int) < ((badL t).length : Int) ∧ ((badL t).length : Int) < 18446744073709551616 := by omega
  obtain ⟨j, hj⟩ := Int.eq_ofNat_of_zero_le (show 0 ≤ gi ms 3 % ((badL t).length : Int) from Int.emod_nonneg _ (by omega))
  have hj2 : j < (badL t).length := by
    have := Int.emod_lt_of_pos (gi ms 3) bp.1
    omega
  generalize hS : (Cell.frz (.lst (ss.map scP)) :: wsC (ss.map lineOf) :: T.set n (.frz (.lst ((badL t).map .str)))) = S
  have hn : n < T.length := (List.getElem?_eq_some_iff.mp hT).1
  have hS1 : S[1]? = some (wsC (ss.map lineOf)) := by rw [← hS]; rfl
  have hSn : S[n + 2]? = some (.frz (.lst ((badL t).map .str))) := by rw [← hS]; simp [hn]
  obtain ⟨b, hb1⟩ : ∃ b, (badL t)[j]? = some b := ⟨_, List.getElem?_eq_getElem hj2⟩
  have hb : b ∈ badL t := List.mem_of_getElem? hb1
  have ab : atI (badL t) (j : Int) = some b := by rw [atI_nn]; exact hb1
  have s1 := sliceW_words hS1 none (some (k : Int))
  have s2 := sliceW_words hS1 (some (k : Int)) none
  rw [cut_to] at s1
  rw [cut_from] at s2
  have at1 := at_told h0 ht hb ss hs k hk2 hl
  obtain ⟨p, et1, et2⟩ := end_told h0 ht ss hs hl
  have bl := (bad_all t (List.mem_range'_1.mpr ⟨h0, by omega⟩) b hb).2.2.2
  have hw : ∀ w ∈ (ss.map lineOf).take k ++ [b] ++ (ss.map lineOf).drop k ++ [("?" : Str)], w.length ≤ 200 := fun w hw => by
    have good : ∀ w ∈ ss.map lineOf, w.length ≤ 200 := fun w hw => by
      obtain ⟨s, h, rfl⟩ := List.mem_map.mp hw
      have := line_len (by omega) (hs s h); omega
    simp only [List.mem_append, List.mem_singleton] at hw
    rcases hw with ((h | rfl) | h) | rfl
    · exact good w (List.mem_of_mem_take h)
    · omega
    · exact good w (List.mem_of_mem_drop h)
    · decide +kernel
  have J : ∀ S, joinW (.val (.str "\n")) (.val (.lst (((ss.map lineOf).take k ++ [b] ++ (ss.map lineOf).drop k ++ [("?" : Str)]).map .str))) S = .ok (.val (.str (Txt.join "\n" ((ss.map lineOf).take k ++ [b] ++ (ss.map lineOf).drop k ++ [("?" : Str)])))) S := fun S => by
    rw [joinW_lst, strsOf_strs, joinR_some, if_pos]
    have q1 := sum_le 200 _ hw
    have q2 : ((ss.map lineOf).take k ++ [b] ++ (ss.map lineOf).drop k ++ [("?" : Str)]).length ≤ 20 := by simp; omega
    have q3 := Nat.mul_le_mul_right 200 q2
    have q4 : ("\n" : Str).length = 1 := by decide +kernel
    rw [q4]; omega
  have c1 : min k ss.length + 1 ≤ 100000 := by omega
  have c2 : min k ss.length + 1 + (ss.length - k) ≤ 100000 := by omega
  have c3 : min k ss.length + 1 + (ss.length - k) + 1 ≤ 100000 := by omega
  have ix : ixW (.loc (n + 2)) (.val (.int (j : Int))) S = .ok (.val (.str b)) S := by rw [ixW_loc, seqW_locC, hSn]; simp [ab]
  have bpN : 0 < (badL t).length := by omega
  generalize hL : (ss.map lineOf).take k ++ [b] ++ (ss.map lineOf).drop k ++ [("?" : Str)] = L at *
  have eL : List.take k (ss.map (P.str ∘ lineOf)) ++ (P.str b :: (List.drop k (ss.map (P.str ∘ lineOf)) ++ [P.str "?"])) = L.map .str := by rw [← hL]; simp
  have J' := J S
  simp only [joinW_lst, strsOf_strs, joinR_some] at J'
  have ei := eqi_ok 2
  have l1 : ("\n" : Str).length = 1 := by decide +kernel
  have tz : (Txt.join "\n" (ss.map lineOf)).length + 1 ≤ 1000000 := by
    have q := (join_len "\n" (ss.map lineOf) 200 fun w hw => by
      obtain ⟨s, h, rfl⟩ := List.mem_map.mp hw
      have := line_len (by omega) (hs s h); omega).1
    rw [l1, List.length_map] at q
    have q3 := Nat.mul_le_mul_right (200 + 1) hl
    omega
  simp [law_18, s1, s2, hS1, hSn, a3, hj, bp, ix, bpN, c1, c2, c3, eL, J', at1, law_19, isi, ei, law_20, l1, tz, et1, law_21]
  have sz : (List.map (fun x => x.length) L).sum + L.length ≤ 1000000 := by
    have q1 := sum_le 200 L hw
    have q2 : L.length ≤ 20 := by rw [← hL]; simp; omega
    have q3 := Nat.mul_le_mul_right 200 q2
    omega
  rw [if_pos (by omega), if_pos sz]
  by_cases hz : ss = []
  · simp [hz]
  · rw [if_neg hz, et2 hz, ei]
    simp
end
theorem law_holds (nl : List Int) : m_law [.scr nl] = .ok (.bl true) := by
  obtain ⟨c0, p0, e0⟩ := cell_ok nl 0
  obtain ⟨c1, p1, e1⟩ := cell_ok nl 1
  obtain ⟨ds, l0, b0, d0⟩ := draws_ok c0 30 p0 (by omega)
  obtain ⟨ms, l1, b1, d1⟩ := draws_ok c1 20 p1 (by omega)
  have hd : Dr ds 30 := ⟨l0, b0⟩
  have hm : Dr ms 20 := ⟨l1, b1⟩
  have a0 := hm.at (i := 0) (by omega) (by omega)
  have a1 := hm.at (i := 1) (by omega) (by omega)
  have r0 := hm.r (i := 0) (by omega) (by omega)
  have r1 := hm.r (i := 1) (by omega) (by omega)
  obtain ⟨t, ht⟩ := Int.eq_ofNat_of_zero_le (show 0 ≤ 1 + gi ms 0 % 8 by omega)
  obtain ⟨n, hn'⟩ := Int.eq_ofNat_of_zero_le (show 0 ≤ gi ms 1 % 9 by omega)
  have t1 : 1 ≤ t := by omega
  have t8 : t ≤ 8 := by omega
  have n8 : n ≤ 8 := by omega
  obtain ⟨ρ', S', ef, o6, o7, o8, o9, o10, o11, o12, o13, o14, T, q1, q2⟩ := for_rng (J2 nl ds ms t) (t := .nm 6) (body := m_law_b2) (lo := 0) (n := n) (fun k ρ S hk hJ => b2_ok hd t t1 t8 k ρ S (by omega) hJ) (ρ := DE nl ds ms t none none none none none none none none none) (S := [.lst [], .lst []]) ⟨none, none, none, none, none, none, none, none, none, [], rfl, rfl⟩
  subst q1 q2
  have er : rngOk 0 n = true := rngOk_of (by omega) (by omega) (by omega) (by omega)
  have hs : ∀ s ∈ (List.range n).map (fun (i : Nat) => scD (gi ds i) (gi ds (10 + i)) (gi ds (20 + i)) t), ScOk t s := fun s h => by
    obtain ⟨i, _, rfl⟩ := List.mem_map.mp h
    exact scD_ok _ _ _ t
  generalize hss : (List.range n).map (fun (i : Nat) => scD (gi ds i) (gi ds (10 + i)) (gi ds (20 + i)) t) = ss at *
  have hl : ss.length ≤ 8 := by rw [← hss]; simp; omega
  have es1 : (List.range n).map (fun (i : Nat) => W.val (scP (scD (gi ds i) (gi ds (10 + i)) (gi ds (20 + i)) t))) = ss.map (W.val ∘ scP) := by rw [← hss, List.map_map]; rfl
  have es2 : (List.range n).map (fun (i : Nat) => lineOf (scD (gi ds i) (gi ds (10 + i)) (gi ds (20 + i)) t)) = ss.map lineOf := by rw [← hss, List.map_map]; rfl
  rw [es1, es2] at ef
  rw [law_eq]
  simp at e0 e1 d0 d1
  unfold DE at ef
  have pA := partA (nl := nl) (ds := ds) (ms := ms) (o6 := o6) (o7 := o7) (o8 := o8) (o9 := o9) (o10 := o10) (o11 := o11) (o12 := o12) (o13 := o13) (o14 := o14) (o15 := none) (o16 := none) (o17 := none) (o18 := none) (o19 := none) (o20 := none) (o21 := none) t1 t8 ss hs hl T (sSeq law_11 (sSeq law_12 (sSeq law_13 (sSeq law_14 (sSeq law_15 (sSeq law_16 (sSeq law_17 (sSeq law_18 (sSeq law_19 (sSeq law_20 law_21))))))))))
  obtain ⟨m, T', pB, hT⟩ := partB (nl := nl) (ds := ds) (ms := ms) (o6 := o6) (o7 := o7) (o8 := o8) (o9 := o9) (o10 := o10) (o11 := o11) (o12 := o12) (o13 := o13) (o14 := o14) (o15 := some (.val (.str (Txt.join "\n" (ss.map lineOf))))) (o16 := some (.val (.lst (ss.map scP)))) (o17 := none) (o18 := none) (o19 := none) (o20 := none) (o21 := none) t1 t8 (.frz (.lst (ss.map scP))) (wsC (ss.map lineOf)) T (sSeq law_16 (sSeq law_17 (sSeq law_18 (sSeq law_19 (sSeq law_20 law_21)))))
  have pC := partC (nl := nl) (ds := ds) (o6 := o6) (o7 := o7) (o8 := o8) (o9 := o9) (o10 := o10) (o11 := o11) (o12 := o12) (o13 := o13) (o14 := o14) (o16 := some (.val (.lst (ss.map scP)))) (o17 := none) (o19 := none) (o20 := none) (o21 := none) t1 t8 hm ss hs hl m T' hT
  rw [← pB, ← pA] at pC
  unfold QE at pC
  simp only [lawT, runP_ap, envOf_ap]
  simp [e0, e1, d0, d1, a0, ht, law_5, a1, hn', er]
  rw [ef]
  exact pC
end Gk71
end
theorem PySem.Challenge.cw_coastersafe_k71_plays_written_and_read_holds : PySem.Challenge.rw_coastersafe_k71_plays_written_and_read.Holds := by
  exact Gk71.ends fun ns _ => Gk71.law_holds ns
