import PyProof.Rows.All
import Wide.All
import OpenK.AllK
import Wide.FinOn
import HandS.ForMost
import HandS.GenList
import HandS.AnyAll
import KE.KDictKeyed
import KE.KDictDisplayH
import KE.KDictCopyH
import KE.KDictWalk
import KE.GoesEnum
import KE.SortData
import HandS.Style
import HandS.Star
import HandS.Wide
import HandS.Flow
import HandS.TupAny
import HandS.IsInst
import HandS.Deep
import HandS.SetFor
import HandS.Conv
import HandS.EndTab
import KE.KNest
import PySem.Challenge.RW_starlands_k06_whole_turns
set_option Elab.async false
set_option linter.all false
set_option maxRecDepth 100000
set_option maxHeartbeats 2000000
/-! any and all of a generator expression whose element may call defs: the generator's own context -/
namespace GX
open PySem PySem.Spec PyProof.Rows L2 GxR GenW

/-- the context of a generator expression's frame -/
abbrev gcx (X : Cx) (A' : Around) (s : Shared) (H : Hp) (cenv : Env) (fp : List Addr) : Cx :=
  { X with A := A', s_0 := s, H_0 := H, env := cenv, outer := X.stack, stack := cenv :: X.stack, ex := fp, fn := fun _ => false, pn := [], xe := fun _ _ => False }

/-- the same heap, the same outside: the same is known -/
theorem inv_same {X : Cx} {pins : List (Addr × Obj)} {σ : L2.St} {H : Hp} {s s' : Shared} (I : Inv X pins σ H s) (h1 : s'.heap = s.heap) (h2 : s'.os = s.os) (h3 : AllBare s'.gens) : Inv X pins σ H s' := by
  obtain ⟨a1, a2, a3, a4, a5, a6, a7, a8, a9, a10, a11⟩ := I
  refine ⟨a1, h2.trans a2, h3, ?_, ?_, ?_, a7, a8, ?_, ?_, a11⟩
  · rw [h1]; exact a4
  · rw [h1]; exact a5
  · rw [h1]; exact a6
  · rw [h1]; exact a9
  · rw [h1]; exact a10

section
variable {X : Cx} {elt iter : Expr} {x : Str} {px : Pos} {scope : Scope} {gpos : Pos} {it : Addr} {fp : List Addr} {tn : Nat → Heap → Prop} {J : It} {te : TE} {ix : Nat} {cont : Bool} {QE QS : Hp → Prop} {W : Nat → Nat → Hp → Prop} {σ0 : L2.St} {pins : List (Addr × Obj)}

/-- what stands at turn i -/
def At (X : Cx) (pins : List (Addr × Obj)) (fp : List Addr) (tn : Nat → Heap → Prop) (ix : Nat) (σ0 : L2.St) (i : Nat) (H : Hp) (s : Shared) : Prop :=
  (∃ y : Option V, Inv X pins (σ0.set ix y) H s) ∧ tn i s.heap ∧ ∀ b ∈ fp, H b = none
def Told (X : Cx) (pins : List (Addr × Obj)) (Q : Hp → Prop) (s : Shared) : Prop := ∃ σ H, Inv X pins σ H s ∧ Q H
def YP (X : Cx) (pins : List (Addr × Obj)) (fp : List Addr) (tn : Nat → Heap → Prop) (ix : Nat) (σ0 : L2.St) (cont : Bool) (QS : Hp → Prop) (W : Nat → Nat → Hp → Prop) : Protocol := fun n _ v s kap =>
  ∃ b : Bool, v = .bool b ∧ (b = cont → ∃ i m H, m < n ∧ W i m H ∧ At X pins fp tn ix σ0 i H s ∧ ∀ s'' : Shared, s''.heap = s.heap → s''.os = s.os → AllBare s''.gens → kap (.send .none) s'') ∧ (b ≠ cont → Told X pins QS s) ∧ AllBare s.gens ∧ s.heap.NoLimit ∧ (∀ p ∈ pins, s.heap.get? p.1 = some p.2)

theorem seg_turns {A : Around} (hco : X.env.scope.isCoroutine = false) (hN : X.N.Nodup) (hix : X.N[ix]? = some x) (hx : X.env.scope.names.lookup x = some .local) (hc : X.calm = true) (hxe : X.xe = fun _ _ => False)
    (hA : A.over (.compLoop (.GeneratorExp elt [⟨.Name x px, iter, [], 0⟩] scope gpos) 0 (.ref it) .none X.env) [] = X.A) (T : Turn X.prog X.w X.K (.Name x px) J fp it tn) (hf : ∀ (H : Hp), (∀ b ∈ fp, H b = none) → ∀ b ∈ fp, FpOk X pins H b)
    (he : PE X elt te)
    (turn : ∀ i m H, W i m H → (J.stop i H ∧ QE H) ∨ (J.go i H ∧ ∃ Nx : Hp → Prop, (∀ H', Nx H' → ∃ m', m' < m ∧ W (i + 1) m' H') ∧
      ∀ v H', J.yld i H v H' → te (σ0.set ix (some v)) H' fun y H3 => ∃ b, y = .bl b ∧ (b = cont → Nx H3) ∧ (b ≠ cont → QS H3))) :
    ∀ (n i m : Nat) (s₀ s : Shared) (H : Hp), m < n → W i m H → At X pins fp tn ix σ0 i H s →
      Seg (model X.prog X.w) A (fun _ _ r s₁ => r = .ok .next ∧ Told X pins QE s₁) (YP X pins fp tn ix σ0 cont QS W) n s₀
        (.compLoop (.GeneratorExp elt [⟨.Name x px, iter, [], 0⟩] scope gpos) 0 (.ref it) .none X.env)
        ((model X.prog X.w).den (.compLoop (.GeneratorExp elt [⟨.Name x px, iter, [], 0⟩] scope gpos) 0 (.ref it) .none X.env)) [] s := by
  intro n
  induction n with
  | zero => intro i m s₀ s H h; exact absurd h (Nat.not_lt_zero _)
  | succ n ih =>
    intro i m s₀ s H hm hw ⟨⟨y0, I⟩, ht, hn⟩
    have hy : ∀ v, yieldOut X.env v = yieldValue v := fun v => by simp only [yieldOut, hco, Bool.false_eq_true, if_false]
    show Seg _ A _ _ _ s₀ _ ((compTurn _ 0 (.ref it) .none X.env).onRaise (leaving X.env)) [] s
    rw [compTurn_gen, Sem.onRaise_eq_wrap]
    refine seg_bind_wrap (wpAny_standAt ?_)
    refine seg_bind_wrap ?_
    rw [hA]
    rcases turn i m H hw with ⟨hs, hq⟩ | ⟨hg, Nx, hN1, step⟩
    · refine wpAny_mono (T.done X rfl rfl rfl hc i pins s _ H _ I (hf H hn) ht hs) (fun r s1 h1 => ?_) fun _ _ e => e
      obtain ⟨rfl, I1⟩ := h1
      exact seg_end (.ok .next) ⟨rfl, _, H, I1, hq⟩
    · refine wpAny_mono (T.item X rfl rfl rfl hc i pins s _ H _ I (hf H hn) ht hg) (fun r s1 h1 => ?_) fun _ _ e => e
      obtain ⟨u, rfl, h1⟩ := h1
      refine seg_bind_wrap ?_
      rw [hA]
      refine wpAny_mono h1 (fun _ s2 h2 => ?_) fun _ _ e => e
      obtain ⟨v, H2, I2, r2, y2, t2, n2⟩ := h2
      have hpn : Inv X (pins ++ pinsAt fp s2.heap) _ H2 s2 := I2.pinned (hf H2 n2) (T.obj _ _ t2)
      have PGx : PG X (.Name x px) (gName ix) := pg_name hN hix (.inl hx) (.inr hx)
      refine seg_bind_wrap ?_
      rw [hA]
      have stepv := step v H2 y2
      refine wpAny_mono (PGx.run _ s2 _ H2 v u (fun σ' H' => σ' = σ0.set ix (some v) ∧ H' = H2) hpn r2 ⟨by rw [List.set_set], rfl⟩) (fun _ s3 h3 => ?main) fun e s' hxx => ?exc
      case exc =>
        rw [hxe] at hxx
        exact hxx.elim
      obtain ⟨σ3, H3, I3, rfl, rfl⟩ := h3
      -- no tests
      refine seg_bind_wrap (wpAny_tests_nil ?_)
      simp only [if_true]
      simp only [hy]
      rw [Sem.bind_eq_wrap', Sem.bind_eq_wrap', Sem.wrap_wrap, Sem.wrap_wrap]
      refine seg_wrap ?_
      rw [hA]
      refine wpAny_mono (he.run _ s3 _ H3 _ I3 stepv) (fun w s4 h4 => ?main2) fun e s' hxx => ?exc2
      case exc2 =>
        rw [hxe] at hxx
        exact hxx.elim
      obtain ⟨yv, H4, I4, r4, b, rfl, q1, q2⟩ := h4
      cases (show w = Value.bool b from r4)
      have t4 : tn (i + 1) s4.heap := T.keep _ _ _ t2 fun c hc' o e => (I4.pin (c, o) (List.mem_append_right _ (List.mem_append_right _ (mem_pinsAt hc' e)))).1
      have n4 : ∀ c ∈ fp, H4 c = none := fun c hc' => by
        obtain ⟨o, e, d⟩ := T.obj _ _ t2 c hc'
        exact (I4.pin (c, o) (List.mem_append_right _ (List.mem_append_right _ (mem_pinsAt hc' e)))).2.1
      have I4' := I4.unpinned
      refine seg_at (seg_yield rfl rfl rfl ⟨b, rfl, fun hb => ?_, fun hb => ⟨_, H4, I4', q2 hb⟩, I4.bare, I4.nolimit, fun p hp => (I4'.pin p (List.mem_append_right _ hp)).1⟩)
      obtain ⟨m', hm', hw'⟩ := hN1 H4 (q1 hb)
      refine ⟨i + 1, m', H4, by omega, hw', ⟨⟨_, I4'⟩, t4, n4⟩, fun s'' e1 e2 e3 => ?_⟩
      exact seg_again rfl (ih (i + 1) m' s'' s'' H4 (by omega) hw' ⟨⟨_, inv_same I4' e1 e2 e3⟩, by rw [e1]; exact t4, n4⟩)
end
end GX

set_option maxHeartbeats 2000000
/-! any and all of a generator expression: the loops of the two built-ins -/
namespace GX
open PySem PySem.Spec PyProof.Rows L2 GxR GenW

section
variable {X : Cx} {elt iter : Expr} {x : Str} {px : Pos} {scope : Scope} {gpos : Pos} {it : Addr} {fp : List Addr} {tn : Nat → Heap → Prop} {J : It} {te : TE} {ix : Nat} {cont : Bool} {QE QS : Hp → Prop} {W : Nat → Nat → Hp → Prop} {σ0 : L2.St} {pins : List (Addr × Obj)}

theorem seg_begin {A : Around} {n : Nat} {s₀ s : Shared} {R : GenEnd} {Y : Protocol} (T : Turn X.prog X.w X.K (.Name x px) J fp it tn) (h0 : tn 0 s.heap)
    (loop : Seg (model X.prog X.w) A R Y n s₀ (.compLoop (.GeneratorExp elt [⟨.Name x px, iter, [], 0⟩] scope gpos) 0 (.ref it) .none X.env)
        ((model X.prog X.w).den (.compLoop (.GeneratorExp elt [⟨.Name x px, iter, [], 0⟩] scope gpos) 0 (.ref it) .none X.env)) [] s) :
    Seg (model X.prog X.w) A R Y n s₀ (.compStart (.GeneratorExp elt [⟨.Name x px, iter, [], 0⟩] scope gpos) 0 (.ref it) .none X.env)
        ((model X.prog X.w).den (.compStart (.GeneratorExp elt [⟨.Name x px, iter, [], 0⟩] scope gpos) 0 (.ref it) .none X.env)) [] s := by
  show Seg _ A _ _ _ s₀ _ ((compStart _ 0 (.ref it) .none X.env).onRaise (leaving X.env)) [] s
  unfold compStart
  rw [Sem.onRaise_eq_wrap]
  show Seg _ A _ _ _ s₀ _ (Sem.wrap _ _ _ _ (ask >>= _)) [] s
  refine seg_bind_wrap (wpAny_askSetting ?_)
  split
  · exact seg_again rfl loop
  · refine seg_bind_wrap (wpAny_rule ?_)
    show Seg _ A _ _ _ s₀ _ (Sem.wrap _ _ _ _ (standAt iter.pos >>= _)) [] s
    exact seg_bind_wrap (wpAny_standAt (seg_bind_wrap (T.self _ 0 s _ _ h0 (seg_again rfl loop))))

/-- the generator number g at a, n items at most to come -/
def Live (X : Cx) (A : Around) (pins : List (Addr × Obj)) (fp : List Addr) (tn : Nat → Heap → Prop) (ix : Nat) (σ0 : L2.St) (cont : Bool) (QE QS : Hp → Prop) (W : Nat → Nat → Hp → Prop) (a : Addr) (g n : Nat) (s : Shared) : Prop :=
  s.heap.IsGen a g ∧ s.heap.NoLimit ∧ ∃ gs, s.gens[g]? = some gs ∧
    gs.Goes (model X.prog X.w) A (fun _ _ r s₁ => r = .ok .next ∧ Told X pins QE s₁) (YP X pins fp tn ix σ0 cont QS W) n (.send .none) (s.setGen g .running)

theorem told_on {s s' : Shared} {Q : Hp → Prop} (h : Told X pins Q s) (k : ∀ b o, s.heap.get? b = some o → s'.heap.get? b = some o) (ho : s'.os = s.os) (hg : AllBare s'.gens) : Told X pins Q s' := by
  obtain ⟨σ, H, I, q⟩ := h
  have I1 : Inv X pins σ H { s with heap := s'.heap, toks := s'.toks } := I.kept k
  exact ⟨σ, H, inv_same I1 rfl ho hg, q⟩

theorem live_next {A : Around} {a : Addr} {og : Obj} {g n : Nat} {s : Shared} {E : Value → Shared → Prop} {Q : Option Value → Shared → Prop} (hh : A.handled = none) (hroom : A.depth < recursionLimit)
    (hpa : (a, og) ∈ pins) (hga : ∀ h : Heap, h.get? a = some og → h.IsGen a g) (h : Live X A.in1 pins fp tn ix σ0 cont QE QS W a g n s)
    (hgo : ∀ s', 0 < n - 1 → Live X A.in1 pins fp tn ix σ0 cont QE QS W a g (n - 1) s' → Q (some (.bool cont)) s')
    (hst : ∀ s', Told X pins QS s' → Q (some (.bool (!cont))) s') (hen : ∀ s', Told X pins QE s' → Q none s') :
    wpAny (model X.prog X.w) A (pyNext (.ref a)) Q E s := by
  obtain ⟨hg, hl, gs, hgs, hgoes⟩ := h
  have hgl : g < s.gens.size := (Array.getElem?_eq_some_iff.mp hgs).1
  refine wpAny_gsz (n := g + 1) hgl ?_
  refine wpAny_pyNext_genexpQ (P := fun _ _ s₁ => Told X pins QE s₁) hh hl hroom hg hgs hgoes (fun v s₁ gs' hb hv => ?_) fun s₁ hp h' hk => ?_
  · intro hsz
    obtain ⟨b, rfl, h1, h2, hbare, hlim, hpin⟩ := hv
    have hsz1 : g < s₁.gens.size := by
      have e := setGen_size s₁ g gs'
      rw [e] at hsz
      exact hsz
    by_cases hbc : b = cont
    · subst hbc
      obtain ⟨i, m, H, hm, hw, hat, hkap⟩ := h1 rfl
      refine hgo _ (by omega) ⟨hga _ (hpin _ hpa), hlim, gs', setGen_at hsz1, ?_⟩
      have hk := hkap ((s₁.setGen g gs').setGen g .running) rfl rfl (allBare_setGen (allBare_setGen hbare hb) rfl)
      cases n with
      | zero => exact hk.elim
      | succ n => exact hk
    · have hb2 : b = !cont := by
        cases b <;> cases cont <;> first | rfl | exact absurd rfl hbc
      rw [hb2]
      have ht := h2 hbc
      exact hst _ (told_on ht (fun _ _ e => e) rfl (allBare_setGen hbare hb))
  · intro _
    refine hen _ (told_on hp hk rfl (allBare_setGen ?_ rfl))
    obtain ⟨_, _, I, _⟩ := hp
    exact I.bare

theorem all_turns {A : Around} {a : Addr} {og : Obj} {g : Nat} {R : Result → Shared → Prop} (hh : A.handled = none) (hroom : A.depth < recursionLimit) (hpa : (a, og) ∈ pins) (hga : ∀ h : Heap, h.get? a = some og → h.IsGen a g)
    (hst : ∀ s', Told X pins QS s' → R (.ok (.ret (.bool false))) s') (hen : ∀ s', Told X pins QE s' → R (.ok (.ret (.bool true))) s') :
    ∀ (n : Nat) (s : Shared), Live X A.in1.in1 pins fp tn ix σ0 true QE QS W a g n s → codeAny (model X.prog X.w) A (.builtin "all.loop" ⟨[.ref a], []⟩) R s := by
  intro n
  induction n with
  | zero =>
    intro s hL
    refine codeAny_builtin F.entry_all_loop ?_
    rw [Around.under_plainId F.plain_all_loop _]
    show wpAny _ A.in1 (pyNext (.ref a) >>= _) _ _ s
    refine wpAny_bind (live_next (A := A.in1) hh hroom hpa hga hL (fun s' hz hL' => absurd hz (by omega)) (fun s' ht => ?_) fun s' ht => ?_)
    · refine wpAny_bind (wpAny_holding (wpAny_truthy_bool (wpAny_bind (wpAny_letGo ?_))))
      simp only [Bool.not_true, Bool.false_eq_true, if_false]
      exact wpAny_bind (wpAny_rule (wpAny_pure (hst s' ht)))
    · exact wpAny_bind (wpAny_rule (wpAny_pure (hen s' ht)))
  | succ n ih =>
    intro s hL
    refine codeAny_builtin F.entry_all_loop ?_
    rw [Around.under_plainId F.plain_all_loop _]
    show wpAny _ A.in1 (pyNext (.ref a) >>= _) _ _ s
    refine wpAny_bind (live_next (A := A.in1) hh hroom hpa hga hL (fun s' hz hL' => ?_) (fun s' ht => ?_) fun s' ht => ?_)
    · refine wpAny_bind (wpAny_holding (wpAny_truthy_bool (wpAny_bind (wpAny_letGo ?_))))
      simp only [if_true]
      exact wpAny_pure ⟨plainId_quiet F.plain_all_loop _, ih s' hL'⟩
    · refine wpAny_bind (wpAny_holding (wpAny_truthy_bool (wpAny_bind (wpAny_letGo ?_))))
      simp only [Bool.not_true, Bool.false_eq_true, if_false]
      exact wpAny_bind (wpAny_rule (wpAny_pure (hst s' ht)))
    · exact wpAny_bind (wpAny_rule (wpAny_pure (hen s' ht)))
theorem any_turns {A : Around} {a : Addr} {og : Obj} {g : Nat} {R : Result → Shared → Prop} (hh : A.handled = none) (hroom : A.depth < recursionLimit) (hpa : (a, og) ∈ pins) (hga : ∀ h : Heap, h.get? a = some og → h.IsGen a g)
    (hst : ∀ s', Told X pins QS s' → R (.ok (.ret (.bool true))) s') (hen : ∀ s', Told X pins QE s' → R (.ok (.ret (.bool false))) s') :
    ∀ (n : Nat) (s : Shared), Live X A.in1.in1 pins fp tn ix σ0 false QE QS W a g n s → codeAny (model X.prog X.w) A (.builtin "any.loop" ⟨[.ref a], []⟩) R s := by
  intro n
  induction n with
  | zero =>
    intro s hL
    refine codeAny_builtin F.entry_any_loop ?_
    rw [Around.under_plainId F.plain_any_loop _]
    show wpAny _ A.in1 (pyNext (.ref a) >>= _) _ _ s
    refine wpAny_bind (live_next (A := A.in1) hh hroom hpa hga hL (fun s' hz hL' => absurd hz (by omega)) (fun s' ht => ?_) fun s' ht => ?_)
    · refine wpAny_bind (wpAny_holding (wpAny_truthy_bool (wpAny_bind (wpAny_letGo ?_))))
      simp only [Bool.not_false, if_true]
      exact wpAny_bind (wpAny_rule (wpAny_pure (hst s' ht)))
    · exact wpAny_bind (wpAny_rule (wpAny_pure (hen s' ht)))
  | succ n ih =>
    intro s hL
    refine codeAny_builtin F.entry_any_loop ?_
    rw [Around.under_plainId F.plain_any_loop _]
    show wpAny _ A.in1 (pyNext (.ref a) >>= _) _ _ s
    refine wpAny_bind (live_next (A := A.in1) hh hroom hpa hga hL (fun s' hz hL' => ?_) (fun s' ht => ?_) fun s' ht => ?_)
    · refine wpAny_bind (wpAny_holding (wpAny_truthy_bool (wpAny_bind (wpAny_letGo ?_))))
      simp only [Bool.false_eq_true, if_false]
      exact wpAny_pure ⟨plainId_quiet F.plain_any_loop _, ih s' hL'⟩
    · refine wpAny_bind (wpAny_holding (wpAny_truthy_bool (wpAny_bind (wpAny_letGo ?_))))
      simp only [Bool.not_false, if_true]
      exact wpAny_bind (wpAny_rule (wpAny_pure (hst s' ht)))
    · exact wpAny_bind (wpAny_rule (wpAny_pure (hen s' ht)))
end
end GX

set_option maxHeartbeats 4000000
/-! any and all of a generator expression: its frame made, and the rules -/
namespace GX
open PySem PySem.Spec PyProof.Rows L2 GxR GenW

theorem over_comp {A : Around} {elt tg iter : Expr} {scope : Scope} {gpos : Pos} {it : Addr} {env : Env} {fr : List Env} (hf : A.frames = some fr) :
    (A.over (.compLoop (.GeneratorExp elt [⟨tg, iter, [], 0⟩] scope gpos) 0 (.ref it) .none env) []).frames = some (env :: fr) := by
  show pushEnvs [env] (pushEnvs [] A.frames) = _
  rw [hf]
  rfl
theorem over_room {A : Around} {elt tg iter : Expr} {scope : Scope} {gpos : Pos} {it : Addr} {env : Env} {k : Nat} (hr : Room (k + 1) A) :
    Room k (A.in1.in1.over (.compLoop (.GeneratorExp elt [⟨tg, iter, [], 0⟩] scope gpos) 0 (.ref it) .none env) []) := by
  refine ⟨hr.hd, ?_, ?_⟩
  · have := hr.dp
    show A.depth + 0 + 1 + 3 * k + 5 < _
    omega
  · have := hr.un
    show A.units + 1 + 1 + 0 + 3 + 16 * k + 200 < _
    omega

section
variable {X : Cx} {elt iter : Expr} {x : Str} {px : Pos} {scope : Scope} {gpos : Pos} {it : Addr} {fp : List Addr} {tn : Nat → Heap → Prop} {J : It} {te : TE} {ix : Nat} {cont : Bool} {QE QS : Hp → Prop} {W : Nat → Nat → Hp → Prop} {pins : List (Addr × Obj)} {σ : L2.St} {H : Hp} {s : Shared}

theorem gen_start {A' : Around} {code : Value} {h' : Heap} {gs : GenState} {og : Obj} {m0 : Str → Option Value} {tk : Nat} (I : Inv X pins σ H s) (ok : BlkOk X.N X.env.scope scope [(x, ix)]) (hN : X.N.Nodup) (S : GenS X.env scope x)
    (hfp : ∀ b ∈ fp, FpOk X pins H b ∧ b < s.heap.objs.size) (hA : A'.frames = some (genEnv scope (cloFrom X.env.cells scope.names []) s.heap.objs.size code builtinsNs X.env :: X.stack)) (hd : A'.handled = none)
    (hn : h'.Ns s.heap.objs.size m0) (kp : ∀ b o, s.heap.get? b = some o → h'.get? b = some o) (hsz : s.heap.objs.size < h'.objs.size) (hgs : gs.bare = true) (hog : ∀ v, og.data ≠ .cell v) (hfree : og.isFreed = false) :
    Inv (gcx X A' s H (genEnv scope (cloFrom X.env.cells scope.names []) s.heap.objs.size code builtinsNs X.env) fp) [(h'.objs.size, og)] (σ.set ix none) H { s with gens := s.gens.push gs, toks := tk, heap := h'.push og } := by
  have kp2 : ∀ b o, s.heap.get? b = some o → (h'.push og).get? b = some o := fun b o e => Heap.get?_push_of_some _ (kp b o e)
  have cm : ∀ {y c}, (cloFrom X.env.cells scope.names []).lookup y = some c → X.env.cells.lookup y = some c ∧ scope.names.lookup y = some .free := fun {y c} e => by
    rcases cloFrom_mem (PySem.mem_of_lookup e) with hm | ⟨h1, rfl⟩
    · cases hm
    · obtain ⟨c, hc⟩ := S.free _ h1 rfl
      rw [hc]
      exact ⟨rfl, ok.uniq _ h1⟩
  have ch : ∀ {y}, scope.names.lookup y = some .free → ∃ c, (cloFrom X.env.cells scope.names []).lookup y = some c := fun {y} e =>
    mem_lookup (cloFrom_has (cells := X.env.cells) (acc := []) (PySem.mem_of_lookup e))
  have noc : ∀ {y}, scope.names.lookup y ≠ some .cell := fun {y} e => S.cell _ (PySem.mem_of_lookup e) rfl
  have clt : ∀ {y c}, X.env.cells.lookup y = some c → c < s.heap.objs.size := fun {y c} e => by
    obtain ⟨w, z⟩ := I.cell y c e
    exact z.lt
  refine ⟨⟨I.ok.mod, S.kind, I.ok.glob, rfl, Nat.le_refl _, fun y z c e1 e2 => I.ok.inj y z c (cm e1).1 (cm e2).1, fun y hy => ?_, fun y c z => absurd (show false = true from z) Bool.false_ne_true, fun _ => hd, hA, .inr ⟨rfl, rfl⟩, fun b hb => ⟨Nat.ne_of_lt (hfp b hb).2, fun y c e => (hfp b hb).1.2.2.2.2.1 y c (cm e).1⟩,
      I.bs, Nat.le_trans I.ok.bsz I.sz, fun b o e hb => ?_, fun b hb z => ?_, I.stack, I.stkFree⟩,
    rfl, I.bare.push hgs, Un.kept kp2, ⟨m0, hn.push _, fun i y v e1 e2 e3 => ?_⟩, fun y c e => ?_, I.hok.fresh (Nat.le_refl _), fun y c e => I.freeC y c (cm e).1, fun p hp => ?_, I.hok.kept kp2, ?_⟩
  · rcases hy with hy | hy
    · exact absurd hy noc
    · exact ch hy
  · rcases (hfp b hb).1.2.2.2.1 with z | z
    · exact I.ok.noex b o e z
    · exact absurd (Nat.lt_of_lt_of_le (Heap.lt_size e) (Nat.le_trans I.ok.bsz z)) (Nat.lt_irrefl _)
  · rcases List.mem_cons.mp (I.stkSub b z) with z | z
    · exact (hfp b hb).1.2.1 z
    · exact (hfp b hb).1.2.2.1 z
  · have hne : i ≠ ix := fun z => by
      subst z
      by_cases hi : i < σ.length
      · rw [List.getElem?_set_self hi] at e2
        cases e2
      · rw [List.getElem?_eq_none (by rw [List.length_set]; omega)] at e2
        cases e2
    rw [List.getElem?_set_ne (Ne.symm hne)] at e2
    have hfr : scope.names.lookup y = some .free := by
      rcases e3 with e3 | e3 | e3
      · rcases ok.own _ (PySem.mem_of_lookup e3) (.inl rfl) with z | z
        · have zx : y = x := by simpa using z
          have q := ok.ix (x, ix) (by simp)
          rw [zx] at e1
          exact absurd (nodup_ix hN e1 q) hne
        · exact absurd (List.mem_of_getElem? e1) z
      · exact absurd e3 noc
      · exact e3
    have hvis := (ok.free _ (PySem.mem_of_lookup hfr) rfl)
    obtain ⟨m, hm, hl⟩ := I.loc
    obtain ⟨u, r, q⟩ := hl i y v e1 e2 (hvis.elim (fun z => .inr (.inl z)) fun z => .inr (.inr z))
    obtain ⟨c, hc⟩ := ch hfr
    refine ⟨u, r, .inr ⟨.inr hfr, c, hc, ?_⟩⟩
    rcases q with ⟨k, _⟩ | ⟨_, c', e', z⟩
    · have k' : X.env.scope.names.lookup y = some .local := k
      rcases hvis with z | z
      · rw [show X.env.scope.names.lookup y = _ from z] at k'
        cases k'
      · rw [show X.env.scope.names.lookup y = _ from z] at k'
        cases k'
    · rw [(cm hc).1] at e'
      cases e'
      exact z.keeps kp2
  · obtain ⟨w, z⟩ := I.cell y c (cm e).1
    exact ⟨w, z.keeps kp2⟩
  · have hp' : p = (h'.objs.size, og) := by simpa using hp
    subst hp'
    refine ⟨Heap.get?_push_size _ hfree, I.hok.fresh (Nat.le_of_lt hsz), Nat.ne_of_gt hsz, fun z => ?_, hog⟩
    rcases List.mem_cons.mp (I.stkSub _ z) with z | z
    · have l := I.lt
      rw [← z] at l
      exact absurd (Nat.lt_trans l hsz) (Nat.lt_irrefl _)
    · exact I.nofs (Nat.le_of_lt hsz) z
  · rw [List.length_set]
    exact I.len
end
end GX

set_option maxHeartbeats 4000000
/-! any and all of a generator expression: the rules -/
namespace GX
open PySem PySem.Spec PyProof.Rows L2 GxR GenW

section
variable {X : Cx} {elt iter : Expr} {x : Str} {px : Pos} {scope : Scope} {gpos : Pos} {te : TE} {ix : Nat} {pins : List (Addr × Obj)} {σ : L2.St} {H : Hp} {s : Shared} {wi : TI} {c P : Addr} {k : Nat}

/-- one turn's wish -/
def TurnsTo (J : It) (te : TE) (ix : Nat) (σ : L2.St) (cont : Bool) (QE QS : Hp → Prop) (W : Nat → Nat → Hp → Prop) : Prop :=
  ∀ i m H, W i m H → (J.stop i H ∧ QE H) ∨ (J.go i H ∧ ∃ Nx : Hp → Prop, (∀ H', Nx H' → ∃ m', m' < m ∧ W (i + 1) m' H') ∧
    ∀ v H', J.yld i H v H' → te (σ.set ix (some v)) H' fun y H3 => ∃ b, y = .bl b ∧ (b = cont → Nx H3) ∧ (b ≠ cont → QS H3))

theorem gen_made {Q' : Value → Shared → Prop} {R : It → Hp → Prop} (hr : Room (k + 1) X.A) (TB : TabB X.base X.mg c P) (hcode : X.env.code = .ref c) (hcalm : X.calm = true) (S : GenS X.env scope x) (ok : BlkOk X.N X.env.scope scope [(x, ix)]) (hN : X.N.Nodup)
    (hi : PI X (.Name x px) iter wi) (hs : ∀ v, genFold iter X.env v = pure v)
    (he : ∀ (A' : Around) (s : Shared) (H : Hp) (C : Addr) (code : Value) (fp : List Addr), Room k A' → PE (gcx X A' s H (genEnv scope (cloFrom X.env.cells scope.names []) C code builtinsNs X.env) fp) elt te)
    (I : Inv X pins σ H s) (h : wi σ H fun J H1 => TabG H1 P ∧ R J H1)
    (hQ : ∀ (J : It) (H1 H2 : Hp) (A' : Around) (s4 : Shared) (cenv : Env) (fp : List Addr) (tn : Nat → Heap → Prop) (a : Addr) (g : Nat) (og : Obj) (s5 : Shared), R J H1 → Tabbed P H1 H2 → (∀ h : Heap, h.get? a = some og → h.IsGen a g) →
      s5.heap.IsGen a g →
      (∀ (cont : Bool) (QE QS : Hp → Prop) (W : Nat → Nat → Hp → Prop) (m : Nat), W 0 m H2 → TurnsTo J te ix σ cont QE QS W →
        Live (gcx X A' s4 H2 cenv fp) X.A.in1.in1 [(a, og)] fp tn ix (σ.set ix none) cont QE QS W a g (m + 1) s5) →
      (∀ (Q : Hp → Prop) (s' : Shared), Told (gcx X A' s4 H2 cenv fp) [(a, og)] Q s' → ∃ H', Inv X pins σ H' s' ∧ Q H') → Q' (.ref a) s5) :
    wpAny (model X.prog X.w) X.A (eval (.GeneratorExp elt [⟨.Name x px, iter, [], 0⟩] scope gpos) X.env) Q' X.xe s := by
  refine wpAny_GeneratorExp_make S.co (closure_ok S.free) S.cell S.dot S.kind (by have := hr.dp; omega) ?_ hs
  refine thn (hi.run pins s σ H _ I h) fun xv s1 h1 => thn h1 fun itv s2 h2 => ?_
  obtain ⟨it, fp, tn, J, H1, rfl, I2, T, t2, f2, ⟨ps, hP, htr⟩, hR⟩ := h2
  refine ⟨I2.nolimit, ?_⟩
  have hPs : s2.heap.get? P = some { cls := .none, data := .fields ps } := I2.hok P _ hP
  have cd : PySem.W.CodeHd s2.heap c P := TB.code.keeps fun b u e => I2.bk b u e
  have nfP : ∀ b ∈ fp, b ≠ P := fun b hb z => by
    have q := (f2 b hb).1
    rw [z, hP] at q
    cases q
  have cont3 : ∀ (code : Value) (h3 : Heap) (tk : Nat) (ps' : Array Value), Heap.ExtBut P s2.heap h3 → h3.get? P = some { cls := .none, data := .fields ps' } → (∃ more, ps' = ps ++ more) → TriplesOk ps'.toList →
      wpAny (model X.prog X.w) X.A (builtinsFor X.env.globals X.env.builtins) (fun bi s₄ =>
        ∀ h', h'.Ns s₄.heap.objs.size (fun y => if y = ".0" then some (.ref it) else none) → Heap.SameBut s₄.heap.objs.size (s₄.heap.push { cls := .type "frame", data := .dict #[] }) h' →
          Q' (.ref h'.objs.size) { s₄ with
            gens := s₄.gens.push (.fresh (.compStart (.GeneratorExp elt [⟨.Name x px, iter, [], 0⟩] scope gpos) 0 (.ref it) .none (genEnv scope (cloFrom X.env.cells scope.names []) s₄.heap.objs.size code bi X.env))),
            toks := s₄.toks + 1 + 1 + 1,
            heap := h'.push { cls := .type "generator", data := .fields #[.int s₄.gens.size 0, .str "<genexpr>" (s₄.toks + 1), .str (X.env.qual ++ "<genexpr>") (s₄.toks + 1 + 1)] } }) X.xe { s2 with heap := h3, toks := tk } := by
    intro code h3 tk ps' hx hP3 hmore htr3
    obtain ⟨more, rfl⟩ := hmore
    obtain ⟨bm, ob, e1, e2, e3, e4, e5, e6, e7, e8⟩ := TB.bm
    have keep3 : ∀ b u, b ≠ P → s2.heap.get? b = some u → h3.get? b = some u := fun b u hb e => hx b u hb e
    refine wpAny_builtinsFor (m := X.mg) (by rw [I2.ok.glob]; exact (I2.mod.glob.keeps I2.bk).extBut hx TB.gP) e1 e2 (keep3 _ _ e4 (I2.bk _ _ e5)) e6 e7 e8 ?_
    have I3 : Inv X pins σ (upd H1 P (.tbl (ps ++ more))) { s2 with heap := h3, gens := s2.gens, drawn := s2.drawn, toks := tk } := inv_tab I2 hP (fun b o hb e => keep3 b o hb e) hP3 I2.bare
    intro h' hn' hs'
    have hsz : h'.objs.size = h3.objs.size + 1 := by rw [hs'.1, Heap.size_push]
    have keep' : ∀ b o, h3.get? b = some o → h'.get? b = some o := fun b o e => hs'.extBut b o (Nat.ne_of_lt (Heap.lt_size e)) (Heap.get?_push_of_some _ e)
    have t3 : tn 0 h3 := T.keep _ _ _ t2 fun b hb o e => keep3 b o (nfP b hb) e
    have f3 : ∀ b ∈ fp, FpOk X pins (upd H1 P (.tbl (ps ++ more))) b ∧ b < h3.objs.size := fun b hb => by
      obtain ⟨g1, g2⟩ := f2 b hb
      obtain ⟨o, e, _⟩ := T.obj _ _ t3 b hb
      exact ⟨⟨by rw [upd_ne (nfP b hb)]; exact g1, g2⟩, Heap.lt_size e⟩
    generalize hog : ({ cls := .type "generator", data := .fields #[.int s2.gens.size 0, .str "<genexpr>" (tk + 1), .str (X.env.qual ++ "<genexpr>") (tk + 1 + 1)] } : Obj) = og
    have hga : ∀ (h : Heap) (a : Addr), h.get? a = some og → h.IsGen a s2.gens.size := fun h a e => by
      rw [← hog] at e
      exact ⟨_, _, _, e, rfl, rfl, rfl⟩
    have hogf : og.isFreed = false := by rw [← hog]; rfl
    have hogc : ∀ v, og.data ≠ .cell v := fun v z => by
      rw [← hog] at z
      cases z
    generalize hcenv : genEnv scope (cloFrom X.env.cells scope.names []) h3.objs.size code builtinsNs X.env = cenv
    have hcen2 := hcenv.symm
    have hfr := over_comp (A := X.A.in1.in1) (elt := elt) (tg := .Name x px) (iter := iter) (scope := scope) (gpos := gpos) (it := it) (env := cenv) I2.ok.frames
    have hrm := over_room (elt := elt) (tg := .Name x px) (iter := iter) (scope := scope) (gpos := gpos) (it := it) (env := cenv) hr
    generalize hA' : X.A.in1.in1.over (.compLoop (.GeneratorExp elt [⟨.Name x px, iter, [], 0⟩] scope gpos) 0 (.ref it) .none cenv) [] = A' at hfr hrm
    have I5 : Inv (gcx X A' { s2 with heap := h3, gens := s2.gens, drawn := s2.drawn, toks := tk } (upd H1 P (.tbl (ps ++ more))) cenv fp) [(h'.objs.size, og)] (σ.set ix none) (upd H1 P (.tbl (ps ++ more)))
        { s2 with heap := h'.push og, gens := s2.gens.push (.fresh (.compStart (.GeneratorExp elt [⟨.Name x px, iter, [], 0⟩] scope gpos) 0 (.ref it) .none cenv)), toks := tk + 1 + 1 + 1 } := by
      subst hcenv
      exact gen_start I3 ok hN S f3 hfr hrm.hd hn' keep' (by show h3.objs.size < _; omega) rfl hogc hogf
    have kp5 : ∀ b o, h3.get? b = some o → (h'.push og).get? b = some o := fun b o e => Heap.get?_push_of_some _ (keep' b o e)
    have hatg : (h'.push og).IsGen h'.objs.size s2.gens.size := hga _ _ (Heap.get?_push_size _ hogf)
    have hpe : PE (gcx X A' { s2 with heap := h3, gens := s2.gens, drawn := s2.drawn, toks := tk } (upd H1 P (.tbl (ps ++ more))) cenv fp) elt te := by
      subst hcenv
      exact he A' _ _ _ code fp hrm
    refine hQ J H1 (upd H1 P (.tbl (ps ++ more))) A' { s2 with heap := h3, gens := s2.gens, drawn := s2.drawn, toks := tk } cenv fp tn h'.objs.size s2.gens.size og _ hR ⟨⟨_, upd_same, htr3⟩, fun b hb => upd_ne hb⟩ (fun h e => hga h _ e) hatg (fun cont QE QS W m hw turn => ?_) fun Q s' ht => ?_
    · refine ⟨hatg, I5.nolimit, _, Array.getElem?_push_size .., rfl, ?_⟩
      have hl : cenv.scope.names.lookup x = some .local := by
        rw [hcen2]
        exact S.loc
      have hcs : cenv.scope.isCoroutine = false := by
        rw [hcen2]
        exact S.co
      have I6 : Inv (gcx X A' { s2 with heap := h3, gens := s2.gens, drawn := s2.drawn, toks := tk } (upd H1 P (.tbl (ps ++ more))) cenv fp) [(h'.objs.size, og)] ((σ.set ix none).set ix none) (upd H1 P (.tbl (ps ++ more)))
          (Shared.setGen { s2 with heap := h'.push og, gens := s2.gens.push (.fresh (.compStart (.GeneratorExp elt [⟨.Name x px, iter, [], 0⟩] scope gpos) 0 (.ref it) .none cenv)), toks := tk + 1 + 1 + 1 } s2.gens.size .running) := by
        rw [List.set_set]
        exact inv_same I5 rfl rfl (allBare_setGen I5.bare rfl)
      have hix : X.N[ix]? = some x := ok.ix (x, ix) (by simp)
      refine seg_begin (X := gcx X A' { s2 with heap := h3, gens := s2.gens, drawn := s2.drawn, toks := tk } (upd H1 P (.tbl (ps ++ more))) cenv fp) T (T.keep _ _ _ t3 fun b _ o e => kp5 b o e)
        (seg_turns (X := gcx X A' { s2 with heap := h3, gens := s2.gens, drawn := s2.drawn, toks := tk } (upd H1 P (.tbl (ps ++ more))) cenv fp) hcs hN hix hl hcalm rfl hA' T (fun H0 h0 b hb => ?_) hpe (fun i m H0 w0 => ?_) (m + 1) 0 m _ _ _ (Nat.lt_succ_self m) hw ⟨⟨none, I6⟩, T.keep _ _ _ t3 fun b _ o e => kp5 b o e, fun b hb => (f3 b hb).1.1⟩)
      · obtain ⟨g1, g2⟩ := I6.ok.exf b hb
        refine ⟨h0 b hb, g1, I6.ok.exfs b hb, .inl hb, g2, fun p hp => ?_⟩
        have hp' : p = (h'.objs.size, og) := by simpa using hp
        subst hp'
        exact Nat.ne_of_gt (Nat.lt_of_lt_of_le (f3 b hb).2 (by omega))
      · have q := turn i m H0 w0
        simpa only [List.set_set] using q
    · obtain ⟨σ', H', I', q⟩ := ht
      exact ⟨H', I3.call' (I'.os) (I'.base) I'.hok I'.bare (fun b hb => ⟨(f3 b hb).1.2.2.2.1, (f3 b hb).1.2.1, (f3 b hb).1.2.2.2.2.1, (f3 b hb).1.2.2.2.2.2⟩) |> fun J' => inv_same J' rfl rfl I'.bare, q⟩
  cases hf : codeAmong gpos ps.toList with
  | none =>
    refine wpAny_genexprCodeX hcode (cd.code hPs htr) (cd.tab hPs) hf fun c' h' tk hx hge hlt hco' _ htab' _ => ?_
    obtain ⟨o1, vs, f1, tf, fl, tg, inF, tx, tt, op, _, _, _, _, _, _, _, _, _, htr', _⟩ := hco'
    exact cont3 _ h' tk _ hx htab'.2 ⟨_, rfl⟩ htr'
  | some cv =>
    refine wpAny_genexprCode_hit hcode (cd.code hPs htr) hf ?_
    exact cont3 cv s2.heap s2.toks ps (Heap.ExtBut.refl _ _) hPs ⟨#[], by simp⟩ htr
end
end GX

set_option maxHeartbeats 4000000
namespace GX
open PySem PySem.Spec PyProof.Rows L2 GxR GenW

section
variable {X : Cx} {elt iter : Expr} {x : Str} {px p pos gpos : Pos} {scope : Scope} {te : TE} {ix : Nat} {wi : TI} {c P : Addr} {k : Nat}

/-- all (cont = true), any (cont = false) of a generator expression, its table at P -/
def tGenA (cont : Bool) (P : Addr) (wi : TI) (te : TE) (ix : Nat) : TE := fun σ H Q => wi σ H fun J H1 => TabG H1 P ∧ ∀ H2, Tabbed P H1 H2 →
  ∃ W : Nat → Nat → Hp → Prop, (∃ m, W 0 m H2) ∧ TurnsTo J te ix σ cont (fun H => Q (.bl cont) H) (fun H => Q (.bl (!cont)) H) W

theorem pe_allX (hr : Room (k + 1) X.A) (hg : Gl X "all") (hm : X.mg "all" = none) (hb : bootBuiltins "all" = some (.builtin "all")) (TB : TabB X.base X.mg c P) (hcode : X.env.code = .ref c) (hcalm : X.calm = true) (S : GenS X.env scope x) (ok : BlkOk X.N X.env.scope scope [(x, ix)]) (hN : X.N.Nodup)
    (hi : PI X (.Name x px) iter wi)
    (hel : ∀ (A' : Around) (s : Shared) (H : Hp) (C : Addr) (code : Value) (fp : List Addr), Room k A' → PE (gcx X A' s H (genEnv scope (cloFrom X.env.cells scope.names []) C code builtinsNs X.env) fp) elt te)
    (hs : ∀ v, genFold iter X.env v = pure v)
    (he : starEach [.GeneratorExp elt [⟨.Name x px, iter, [], 0⟩] scope gpos] X.env = (false, eval (.GeneratorExp elt [⟨.Name x px, iter, [], 0⟩] scope gpos) X.env) :: starEach [] X.env := by rfl) :
    PE X (.Call (.Name "all" p) [.GeneratorExp elt [⟨.Name x px, iter, [], 0⟩] scope gpos] [] pos) (tGenA true P wi te ix) := by
  refine ⟨fun pins s σ H Q I h => ?_⟩
  refine wpAny_Call_Name_kw (ld_blt I hg hm hb ?_)
  refine PyProof.Rows.callWith_builtin1 ?_ he (by rfl)
  rw [he]
  show wpAny _ _ (spliced ((false, eval _ X.env) :: backTo pos (starEach [] X.env))) _ _ s
  refine Calls.spliced_cons (gen_made (R := fun J H1 => ∀ H2, Tabbed P H1 H2 → ∃ W : Nat → Nat → Hp → Prop, (∃ m, W 0 m H2) ∧ TurnsTo J te ix σ true (fun H => Q (.bl true) H) (fun H => Q (.bl (!true)) H) W) hr TB hcode hcalm S ok hN hi hs hel I h
    fun J H1 H2 A' s4 cenv fp tn a g og s5 hR hT hga hig hL hback => ?_)
  refine Calls.spliced_nil ?_
  obtain ⟨W, ⟨m, hw⟩, turn⟩ := hR H2 hT
  refine call_function_tree F.kind_all F.plain_all F.entry_all (F.args_all1 _) ?_
  unfold Builtin.«all»
  refine wpAny_bind (m := oneArg "all" _) (wpAny_pure ?_)
  refine wpAny_bind (wpAny_pyIter_gen hig ?_)
  refine wpAny_pure ⟨plainId_quiet F.plain_all_loop _, ?_⟩
  refine all_turns (X := gcx X A' s4 H2 cenv fp) (og := og) (hr.hd) (by have := hr.dp; omega) (by simp) hga (fun s' ht => ?_) (fun s' ht => ?_) (m + 1) s5 (hL _ _ _ W m hw turn)
  · obtain ⟨H', I', q⟩ := hback _ s' ht
    exact ⟨.bl false, H', I', rfl, q⟩
  · obtain ⟨H', I', q⟩ := hback _ s' ht
    exact ⟨.bl true, H', I', rfl, q⟩
theorem pe_anyX (hr : Room (k + 1) X.A) (hg : Gl X "any") (hm : X.mg "any" = none) (TB : TabB X.base X.mg c P) (hcode : X.env.code = .ref c) (hcalm : X.calm = true) (S : GenS X.env scope x) (ok : BlkOk X.N X.env.scope scope [(x, ix)]) (hN : X.N.Nodup)
    (hi : PI X (.Name x px) iter wi)
    (hel : ∀ (A' : Around) (s : Shared) (H : Hp) (C : Addr) (code : Value) (fp : List Addr), Room k A' → PE (gcx X A' s H (genEnv scope (cloFrom X.env.cells scope.names []) C code builtinsNs X.env) fp) elt te)
    (hs : ∀ v, genFold iter X.env v = pure v)
    (he : starEach [.GeneratorExp elt [⟨.Name x px, iter, [], 0⟩] scope gpos] X.env = (false, eval (.GeneratorExp elt [⟨.Name x px, iter, [], 0⟩] scope gpos) X.env) :: starEach [] X.env := by rfl) :
    PE X (.Call (.Name "any" p) [.GeneratorExp elt [⟨.Name x px, iter, [], 0⟩] scope gpos] [] pos) (tGenA false P wi te ix) := by
  refine ⟨fun pins s σ H Q I h => ?_⟩
  refine wpAny_Call_Name_kw (ld_blt I hg hm boot_any ?_)
  refine PyProof.Rows.callWith_builtin1 ?_ he (by rfl)
  rw [he]
  show wpAny _ _ (spliced ((false, eval _ X.env) :: backTo pos (starEach [] X.env))) _ _ s
  refine Calls.spliced_cons (gen_made (R := fun J H1 => ∀ H2, Tabbed P H1 H2 → ∃ W : Nat → Nat → Hp → Prop, (∃ m, W 0 m H2) ∧ TurnsTo J te ix σ false (fun H => Q (.bl false) H) (fun H => Q (.bl (!false)) H) W) hr TB hcode hcalm S ok hN hi hs hel I h
    fun J H1 H2 A' s4 cenv fp tn a g og s5 hR hT hga hig hL hback => ?_)
  refine Calls.spliced_nil ?_
  obtain ⟨W, ⟨m, hw⟩, turn⟩ := hR H2 hT
  refine call_function_tree F.kind_any F.plain_any F.entry_any (F.args_any1 _) ?_
  unfold Builtin.«any»
  refine wpAny_bind (m := oneArg "any" _) (wpAny_pure ?_)
  refine wpAny_bind (wpAny_pyIter_gen hig ?_)
  refine wpAny_pure ⟨plainId_quiet F.plain_any_loop _, ?_⟩
  refine any_turns (X := gcx X A' s4 H2 cenv fp) (og := og) (hr.hd) (by have := hr.dp; omega) (by simp) hga (fun s' ht => ?_) (fun s' ht => ?_) (m + 1) s5 (hL _ _ _ W m hw turn)
  · obtain ⟨H', I', q⟩ := hback _ s' ht
    exact ⟨.bl true, H', I', rfl, q⟩
  · obtain ⟨H', I', q⟩ := hback _ s' ht
    exact ⟨.bl false, H', I', rfl, q⟩
end
end GX

set_option maxHeartbeats 2000000
/-! the ground: maps as data, what stays -/
namespace SL
open PySem PySem.Spec PyProof.Rows L2 GxR

/-- a map: its arms, the lands of its cells -/
abbrev Map := Nat × List Nat
def nv (n : Nat) : V := .int (n : Int)
/-- all stays; a table may grow -/
def Ext (H H' : Hp) : Prop := (∀ a o, H a = some o → (∀ ps, o ≠ .tbl ps) → H' a = some o) ∧ ∀ a ps, H a = some (.tbl ps) → ∃ qs, H' a = some (.tbl qs) ∧ (TriplesOk ps.toList → TriplesOk qs.toList)
theorem Ext.refl (H : Hp) : Ext H H := ⟨fun _ _ h _ => h, fun _ ps h => ⟨ps, h, id⟩⟩
theorem Ext.trans {H H1 H2 : Hp} (a : Ext H H1) (b : Ext H1 H2) : Ext H H2 := ⟨fun x o h n => b.1 x o (a.1 x o h n) n, fun x ps h => by
  obtain ⟨qs, e, t⟩ := a.2 x ps h
  obtain ⟨rs, e2, t2⟩ := b.2 x qs e
  exact ⟨rs, e2, fun z => t2 (t z)⟩⟩
/-- what H does not know may change -/
theorem Ext.mut {H H' : Hp} {p : Addr} {o : HO} (e : Ext H H') (h : H p = none) : Ext H (upd H' p o) :=
  ⟨fun a u ha n => by rw [upd_ne (ne_of_none ha h)]; exact e.1 a u ha n, fun a ps ea => by
    rw [upd_ne (ne_of_none ea h)]
    exact e.2 a ps ea⟩
theorem Ext.new {H : Hp} {p : Addr} {o : HO} (h : H p = none) : Ext H (upd H p o) := (Ext.refl H).mut h
theorem Ext.tabg {H H' : Hp} {P : Addr} (e : Ext H H') (hP : TabG H P) : TabG H' P := by
  obtain ⟨ps, ep, t⟩ := hP
  obtain ⟨qs, eq, tq⟩ := e.2 P ps ep
  exact ⟨qs, eq, tq t⟩
theorem Ext.tab {H H' : Hp} {P : Addr} (h : Tabbed P H H') (hP : TabG H P) : Ext H H' := by
  obtain ⟨ps, ep, t⟩ := hP
  refine ⟨fun a o e n => ?_, fun a qs ea => ?_⟩
  · have hne : a ≠ P := fun z => by
      rw [z, ep] at e
      exact n ps (Option.some.inj e).symm
    rw [h.2 a hne]
    exact e
  · by_cases z : a = P
    · obtain ⟨rs, er, tr⟩ := h.1
      exact ⟨rs, by rw [z]; exact er, fun _ => tr⟩
    · exact ⟨qs, by rw [h.2 a z]; exact ea, id⟩
theorem Ext.free {H H' : Hp} {p : Addr} (e : Ext H H') (h : H' p = none) : H p = none := by
  cases h1 : H p with
  | none => rfl
  | some o =>
    by_cases ho : ∃ ps, o = .tbl ps
    · obtain ⟨ps, rfl⟩ := ho
      obtain ⟨qs, e1, _⟩ := e.2 p ps h1
      rw [h] at e1
      cases e1
    · rw [e.1 p o h1 fun ps z => ho ⟨ps, z⟩] at h
      cases h
theorem Ext.lst {H H' : Hp} {p : Addr} {xs : List V} (e : Ext H H') (h : H p = some (.lst xs)) : H' p = some (.lst xs) := e.1 _ _ h fun _ z => by cases z
theorem Ext.tup {H H' : Hp} {p : Addr} {xs : List V} (e : Ext H H') (h : H p = some (.tup xs)) : H' p = some (.tup xs) := e.1 _ _ h fun _ z => by cases z
theorem Ext.ext {H H' : Hp} {p : Addr} {f : Heap → Prop} (e : Ext H H') (h : H p = some (.ext f)) : H' p = some (.ext f) := e.1 _ _ h fun _ z => by cases z

/-- tuples stay (they never change), known things too -/
def Tk (H H' : Hp) : Prop := (∀ a xs, H a = some (.tup xs) → H' a = some (.tup xs)) ∧ ∀ a o u, H a = some (.frz o u) → H' a = some (.frz o u)
theorem Tk.refl (H : Hp) : Tk H H := ⟨fun _ _ h => h, fun _ _ _ h => h⟩
theorem Tk.trans {H H1 H2 : Hp} (a : Tk H H1) (b : Tk H1 H2) : Tk H H2 := ⟨fun x o h => b.1 x o (a.1 x o h), fun x o u h => b.2 x o u (a.2 x o u h)⟩
theorem Ext.tk {H H' : Hp} (e : Ext H H') : Tk H H' := ⟨fun _ _ h => e.tup h, fun _ _ _ h => e.1 _ _ h fun _ z => by cases z⟩
theorem Tk.mutL {H : Hp} {p : Addr} {xs : List V} {o : HO} (h : H p = some (.lst xs)) : Tk H (upd H p o) :=
  ⟨fun a ys e => by rw [upd_ne (ne_of e h (by intro z; cases z))]; exact e, fun a b u e => by rw [upd_ne (ne_of e h (by intro z; cases z))]; exact e⟩
theorem Tk.mutE {H : Hp} {p : Addr} {f : Heap → Prop} {o : HO} (h : H p = some (.ext f)) : Tk H (upd H p o) :=
  ⟨fun a ys e => by rw [upd_ne (ne_of e h (by intro z; cases z))]; exact e, fun a b u e => by rw [upd_ne (ne_of e h (by intro z; cases z))]; exact e⟩
theorem Tk.sq {K : PySem.W.Frag} {H H' : Hp} {a : Addr} {xs : List V} (t : Tk H H') (h : SqT K H a xs) : SqT K H' a xs := by
  rcases h with (h | ⟨o, h⟩) | h
  · exact .inl (.inl (t.1 _ _ h))
  · exact .inl (.inr ⟨o, t.2 _ _ _ h⟩)
  · exact .inr h
theorem Ext.sql {K : PySem.W.Frag} {H H' : Hp} {a : Addr} {xs : List V} (t : Ext H H') (h : SqL K H a xs) : SqL K H' a xs := by
  rcases h with (h | ⟨o, h⟩) | h
  · exact .inl (.inl (t.lst h))
  · exact .inl (.inr ⟨o, t.1 _ _ h fun _ z => by cases z⟩)
  · exact .inr h

/-! ### data: tuples of numbers, truths, None, tuples -/
inductive Dat where
  | non
  | bl (b : Bool)
  | int (i : Int)
  | tup (ds : List Dat)
mutual
inductive TD (K : PySem.W.Frag) (H : Hp) : V → Dat → Prop
  | non : TD K H .non .non
  | bl (b : Bool) : TD K H (.bl b) (.bl b)
  | int (i : Int) : TD K H (.int i) (.int i)
  | tup {a : Addr} {xs : List V} {ds : List Dat} : SqT K H a xs → TDs K H xs ds → TD K H (.ref a) (.tup ds)
inductive TDs (K : PySem.W.Frag) (H : Hp) : List V → List Dat → Prop
  | nil : TDs K H [] []
  | cons {v : V} {vs : List V} {d : Dat} {ds : List Dat} : TD K H v d → TDs K H vs ds → TDs K H (v :: vs) (d :: ds)
end
section
variable {K : PySem.W.Frag} {H H' : Hp}
mutual
theorem TD.tk (t : Tk H H') : ∀ (d : Dat) (v : V), TD K H v d → TD K H' v d
  | .non, _, h => by cases h; exact .non
  | .bl b, _, h => by cases h; exact .bl b
  | .int i, _, h => by cases h; exact .int i
  | .tup ds, _, h => by
    cases h with
    | tup h1 h2 => exact .tup (t.sq h1) (TDs.tk t ds _ h2)
theorem TDs.tk (t : Tk H H') : ∀ (ds : List Dat) (vs : List V), TDs K H vs ds → TDs K H' vs ds
  | [], _, h => by cases h; exact .nil
  | d :: ds, _, h => by
    cases h with
    | cons h1 h2 => exact .cons (TD.tk t d _ h1) (TDs.tk t ds _ h2)
end
theorem TD.mono {v : V} {d : Dat} (h : TD K H v d) (t : Tk H H') : TD K H' v d := TD.tk t d v h
theorem TDs.mono {vs : List V} {ds : List Dat} (h : TDs K H vs ds) (t : Tk H H') : TDs K H' vs ds := TDs.tk t ds vs h
theorem TDs.length {vs : List V} {ds : List Dat} (h : TDs K H vs ds) : vs.length = ds.length := by
  induction ds generalizing vs with
  | nil => cases h; rfl
  | cons d ds ih =>
    cases h with
    | cons h1 h2 => simp [ih h2]
theorem TDs.get {vs : List V} {ds : List Dat} (h : TDs K H vs ds) : ∀ {i : Nat} {d : Dat}, ds[i]? = some d → ∃ v, vs[i]? = some v ∧ TD K H v d := by
  induction ds generalizing vs with
  | nil => intro i d e; simp at e
  | cons d0 ds ih =>
    intro i d e
    cases h with
    | cons h1 h2 =>
      cases i with
      | zero =>
        have e' : d0 = d := by simpa using e
        subst e'
        exact ⟨_, rfl, h1⟩
      | succ i =>
        obtain ⟨v, hv, hd⟩ := ih h2 (i := i) (d := d) (by simpa using e)
        exact ⟨v, by simpa using hv, hd⟩
theorem TDs.getv {vs : List V} {ds : List Dat} (h : TDs K H vs ds) : ∀ {i : Nat} {v : V}, vs[i]? = some v → ∃ d, ds[i]? = some d ∧ TD K H v d := by
  induction ds generalizing vs with
  | nil => intro i v e; cases h; simp at e
  | cons d0 ds ih =>
    intro i v e
    cases h with
    | cons h1 h2 =>
      cases i with
      | zero =>
        have e' := Option.some.inj e
        subst e'
        exact ⟨_, rfl, h1⟩
      | succ i =>
        obtain ⟨d, hv, hd⟩ := ih h2 (i := i) (v := v) (by simpa using e)
        exact ⟨d, by simpa using hv, hd⟩
theorem TDs.append {vs ws : List V} {ds es : List Dat} (h : TDs K H vs ds) (h2 : TDs K H ws es) : TDs K H (vs ++ ws) (ds ++ es) := by
  induction ds generalizing vs with
  | nil => cases h; exact h2
  | cons d ds ih =>
    cases h with
    | cons h1 h3 => exact .cons h1 (ih h3)
theorem TDs.take {vs : List V} {ds : List Dat} (h : TDs K H vs ds) : ∀ n : Nat, TDs K H (vs.take n) (ds.take n) := by
  induction ds generalizing vs with
  | nil => intro n; cases h; simp; exact .nil
  | cons d ds ih =>
    intro n
    cases h with
    | cons h1 h2 =>
      cases n with
      | zero => exact .nil
      | succ n => exact .cons h1 (ih h2 n)
theorem TDs.drop {vs : List V} {ds : List Dat} (h : TDs K H vs ds) : ∀ n : Nat, TDs K H (vs.drop n) (ds.drop n) := by
  induction ds generalizing vs with
  | nil => intro n; cases h; simp; exact .nil
  | cons d ds ih =>
    intro n
    cases h with
    | cons h1 h2 =>
      cases n with
      | zero => exact .cons h1 h2
      | succ n => exact ih h2 n
end
/-- a number, a list of numbers, a map, a taking as data -/
def nd (n : Nat) : Dat := .int (n : Int)
def lnd (l : List Nat) : Dat := .tup (l.map nd)
def chd (m : Map) : Dat := .tup [nd m.1, lnd m.2]
def tkd (t : Nat × Nat) : Dat := .tup [nd t.1, nd t.2]
theorem tds_ints {K : PySem.W.Frag} {H : Hp} : ∀ l : List Nat, TDs K H (l.map nv) (l.map nd)
  | [] => .nil
  | n :: l => .cons (.int _) (tds_ints l)
theorem tds_int_inv {K : PySem.W.Frag} {H : Hp} : ∀ {l : List Nat} {vs : List V}, TDs K H vs (l.map nd) → vs = l.map nv
  | [], _, h => by cases h; rfl
  | n :: l, _, h => by
    cases h with
    | cons h1 h2 =>
      cases h1
      rw [tds_int_inv h2]
      rfl
theorem chd_inv {K : PySem.W.Frag} {H : Hp} {v : V} {m : Map} (h : TD K H v (chd m)) : ∃ a q, v = .ref a ∧ SqT K H a [nv m.1, .ref q] ∧ SqT K H q (m.2.map nv) := by
  cases h with
  | @tup a xs _ h1 h2 =>
    cases h2 with
    | cons g1 g2 =>
      cases g2 with
      | cons g3 g4 =>
        cases g4
        cases g1
        cases g3 with
        | @tup q ys _ k1 k2 =>
          rw [tds_int_inv k2] at k1
          exact ⟨a, q, rfl, h1, k1⟩
theorem tkd_inv {K : PySem.W.Frag} {H : Hp} {v : V} {t : Nat × Nat} (h : TD K H v (tkd t)) : ∃ a, v = .ref a ∧ SqT K H a [nv t.1, nv t.2] := by
  cases h with
  | @tup a xs _ h1 h2 =>
    cases h2 with
    | cons g1 g2 =>
      cases g2 with
      | cons g3 g4 =>
        cases g4
        cases g1
        cases g3
        exact ⟨a, rfl, h1⟩
end SL

set_option maxHeartbeats 2000000
/-! dicts whose keys are maps -/
namespace SL
open PySem PySem.Spec PyProof.Rows L2 GxR

def nk (n : Nat) : NestedKey := .num (n : Int)
/-- a map as a key -/
def ckey (m : Map) : NestedKey := .tup [nk m.1, .tup (m.2.map nk)]
theorem nums_inj : ∀ {a b : List Nat}, a.map nk = b.map nk → a = b
  | [], [], _ => rfl
  | [], _ :: _, h => by simp at h
  | _ :: _, [], h => by simp at h
  | x :: xs, y :: ys, h => by
    rw [List.map_cons, List.map_cons] at h
    injection h with h1 h2
    injection h1 with h1
    rw [nums_inj h2, Int.ofNat.inj h1]
theorem ckey_inj {a b : Map} (h : ckey a = ckey b) : a = b := by
  obtain ⟨a1, a2⟩ := a
  obtain ⟨b1, b2⟩ := b
  unfold ckey at h
  injection h with h
  injection h with h1 h2
  injection h1 with h1
  injection h2 with h2 _
  injection h2 with h2
  have e1 : a1 = b1 := Int.ofNat.inj h1
  have e2 : a2 = b2 := nums_inj h2
  rw [e1, e2]
theorem nums_depth : ∀ l : List Nat, NestedKey.depthAll (l.map nk) = 0
  | [] => rfl
  | n :: l => by
    rw [List.map_cons, NestedKey.depthAll, nums_depth l]
    rfl
theorem ckey_depth (m : Map) : (ckey m).depth ≤ 8 := by
  unfold ckey
  simp only [NestedKey.depth, NestedKey.depthAll, nums_depth, nk]
  decide
theorem nums_all {h : Heap} : ∀ {l : List Nat} {us : List Value}, Vals (l.map nv) us → NestedAll h (l.map nk) us
  | [], _, r => by cases r; exact .nil
  | n :: l, _, r => by
    cases r with
    | cons r1 r2 =>
      obtain ⟨t, rfl⟩ := r1
      exact .cons (.int _ _) (nums_all r2)
section
variable {X : Cx} {pins : List (Addr × Obj)} {σ : L2.St} {H H' : Hp} {s : Shared}
theorem key_at {a : Addr} {m : Map} (I : Inv X pins σ H s) (h : TD X.K H (.ref a) (chd m)) : (nestedKind X.prog X.w).is s.heap (ckey m) a := by
  obtain ⟨a', q, e, h1, h2⟩ := chd_inv h
  cases e
  obtain ⟨its, r, t, _⟩ := I.tuple h1
  obtain ⟨its2, r2, t2, _⟩ := I.tuple h2
  cases r with
  | cons ra rb =>
    cases rb with
    | cons rc rd =>
      cases rd
      obtain ⟨tk, rfl⟩ := ra
      cases (show _ = Value.ref q from rc)
      obtain ⟨o, ho, hc, n, hd⟩ := t
      obtain ⟨o2, ho2, hc2, n2, hd2⟩ := t2
      refine ⟨.tup ho hc hd (.cons (.int _ _) (.cons (.tup ho2 hc2 hd2 ?_) .nil)), ckey_depth m⟩
      exact nums_all r2
end

/-- the entries by maps, as the library's -/
def toK (xs : List (Map × Addr × Value)) : List (NestedKey × Addr × Value) := xs.map fun x => (ckey x.1, x.2)
theorem atKey_toK (xs : List (Map × Addr × Value)) (m : Map) : atKey (toK xs) (ckey m) = atKey xs m := by
  induction xs with
  | nil => rfl
  | cons x xs ih =>
    by_cases e : x.1 = m
    · have e2 : ckey x.1 = ckey m := by rw [e]
      simp [toK, atKey, List.find?_cons, e]
    · have e2 : ¬ ckey x.1 = ckey m := fun z => e (ckey_inj z)
      simp only [toK, atKey, List.map_cons, List.find?_cons, e, e2, decide_false] at ih ⊢
      exact ih
theorem storedH_toK (xs : List (Map × Addr × Value)) (m : Map) (b : Addr) (u : Value) : toK (storedH xs m b u) = storedH (toK xs) (ckey m) b u := by
  unfold storedH
  rw [atKey_toK]
  by_cases h : (atKey xs m).isSome = true
  · rw [if_pos h, if_pos h]
    unfold toK
    rw [List.map_map, List.map_map]
    refine List.map_congr_left fun x _ => ?_
    unfold putAt
    by_cases e : x.1 = m
    · have e2 : ckey x.1 = ckey m := by rw [e]
      simp [e]
    · have e2 : ¬ ckey x.1 = ckey m := fun z => e (ckey_inj z)
      simp [e, e2]
  · rw [if_neg h, if_neg h]
    simp [toK]
abbrev MT (K : PySem.W.Frag) (H : Hp) : List (Map × V) → List (Map × Addr × Value) → Prop := Paired fun p q => p.1 = q.1 ∧ TD K H (.ref q.2.1) (chd p.1) ∧ RelV p.2 q.2.2
theorem MT.val {K : PySem.W.Frag} {H : Hp} {kvs : List (Map × V)} {xs : List (Map × Addr × Value)} (r : MT K H kvs xs) (k : Map) : RelO (valV kvs k) ((atKey xs k).map (·.2)) := by
  induction r with
  | nil => exact True.intro
  | @cons p q ps qs h t ih =>
    by_cases e : p.1 = k
    · have b : atKey (q :: qs) k = some q.2 := by simp [atKey, List.find?_cons, h.1.symm.trans e]
      rw [valV_pos e, b]
      exact h.2.2
    · have b : atKey (q :: qs) k = atKey qs k := by simp [atKey, List.find?_cons, show ¬ q.1 = k from fun z => e (h.1.trans z)]
      rw [valV_neg e, b]
      exact ih
theorem MT.repl {K : PySem.W.Frag} {H : Hp} {kvs : List (Map × V)} {xs : List (Map × Addr × Value)} (r : MT K H kvs xs) (k : Map) {y : V} {u : Value} (ry : RelV y u) :
    MT K H (kvs.map fun kv => if kv.1 = k then (kv.1, y) else kv) (xs.map (putAt k u)) := by
  induction r with
  | nil => exact .nil
  | @cons p q ps qs h t ih =>
    rw [List.map_cons, List.map_cons]
    refine .cons ?_ ih
    unfold putAt
    by_cases e : p.1 = k
    · rw [if_pos e, if_pos (h.1.symm.trans e)]
      exact ⟨h.1, h.2.1, ry⟩
    · rw [if_neg e, if_neg (fun z => e (h.1.trans z))]
      exact h
theorem MT.put {K : PySem.W.Frag} {H : Hp} {kvs : List (Map × V)} {xs : List (Map × Addr × Value)} (r : MT K H kvs xs) (k : Map) {b : Addr} {y : V} {u : Value} (hb : TD K H (.ref b) (chd k)) (ry : RelV y u) :
    MT K H (putK kvs k y) (storedH xs k b u) := by
  have e : (kvs.any fun kv => decide (kv.1 = k)) = (atKey xs k).isSome := by rw [valV_any, (r.val k).isSome_eq, Option.isSome_map]
  unfold putK storedH
  rw [e]
  by_cases q : (atKey xs k).isSome = true
  · rw [if_pos q, if_pos q]
    exact r.repl k ry
  · rw [if_neg q, if_neg q]
    exact Paired.snoc r ⟨rfl, hb, ry⟩
theorem MT.tk {K : PySem.W.Frag} {H H' : Hp} {kvs : List (Map × V)} {xs : List (Map × Addr × Value)} (r : MT K H kvs xs) (t : Tk H H') : MT K H' kvs xs :=
  Paired.mapP r fun _ _ z => ⟨z.1, z.2.1.mono t, z.2.2⟩

/-- what the dict's own object is -/
def rawD (P : Program) (w : World) (d : Addr) (xs : List (NestedKey × Addr × Value)) (h : Heap) : Prop :=
  ∃ o es ep, h.get? d = some o ∧ o.ExactDict ∧ o.data = .dict es ep ∧ es.toList = xs.map (entryOfKey (nestedKind P w)) ∧ (xs.map (·.1)).Nodup
/-- at d a dict with the keys and values kvs -/
def DM (P : Program) (w : World) (K : PySem.W.Frag) (H : Hp) (d : Addr) (kvs : List (Map × V)) : Prop :=
  (d == sysModules) = false ∧ kvs.length ≤ sizeLine ∧ ∃ xs, H d = some (.ext (rawD P w d (toK xs))) ∧ MT K H kvs xs
theorem DM.keep {P : Program} {w : World} {K : PySem.W.Frag} {H H' : Hp} {d : Addr} {kvs : List (Map × V)} (h : DM P w K H d kvs) (t : Tk H H') (e : H' d = H d) : DM P w K H' d kvs := by
  obtain ⟨h1, h2, xs, h3, h4⟩ := h
  exact ⟨h1, h2, xs, e.trans h3, h4.tk t⟩
theorem DM.ext {P : Program} {w : World} {K : PySem.W.Frag} {H H' : Hp} {d : Addr} {kvs : List (Map × V)} (h : DM P w K H d kvs) (t : Ext H H') : DM P w K H' d kvs := by
  obtain ⟨h1, h2, xs, h3, h4⟩ := h
  exact ⟨h1, h2, xs, t.ext h3, h4.tk t.tk⟩
theorem DM.tkm {P : Program} {w : World} {K : PySem.W.Frag} {H : Hp} {d : Addr} {kvs : List (Map × V)} (h : DM P w K H d kvs) (o : HO) : Tk H (upd H d o) := by
  obtain ⟨_, _, xs, h3, _⟩ := h
  exact Tk.mutE h3
/-- another dict, list at an address of its own stays -/
theorem DM.ne_lst {P : Program} {w : World} {K : PySem.W.Frag} {H : Hp} {d p : Addr} {kvs : List (Map × V)} {xs : List V} (h : DM P w K H d kvs) (hp : H p = some (.lst xs)) : d ≠ p := by
  obtain ⟨_, _, xs, h3, _⟩ := h
  exact ne_of h3 hp (by intro z; cases z)

section
variable {X : Cx} {pins : List (Addr × Obj)} {σ : L2.St} {H H' : Hp} {s : Shared} {d a : Addr} {kvs : List (Map × V)} {m : Map} {A : Around} {E : Value → Shared → Prop}
theorem keys_is (I : Inv X pins σ H s) {xs : List (Map × Addr × Value)} (r : MT X.K H kvs xs) : ∀ x ∈ toK xs, (nestedKind X.prog X.w).is s.heap x.1 x.2.1 := by
  induction r with
  | nil => intro x hx; cases hx
  | @cons p q ps qs h t ih =>
    intro x hx
    rcases List.mem_cons.mp hx with e | hx
    · subst e
      have k := key_at I h.2.1
      rw [h.1] at k
      exact k
    · exact ih x hx
theorem DM.of (I : Inv X pins σ H s) (h : DM X.prog X.w X.K H d kvs) : (d == sysModules) = false ∧ kvs.length ≤ sizeLine ∧ ∃ xs, MT X.K H kvs xs ∧ s.heap.DictOfH (nestedKind X.prog X.w) d (toK xs) := by
  obtain ⟨h1, h2, xs, h3, h4⟩ := h
  obtain ⟨⟨o, es, ep, g1, g2, g3, g4, g5⟩, _⟩ := I.hok d _ h3
  exact ⟨h1, h2, xs, h4, o, es, ep, g1, g2, g3, g4, keys_is I h4, g5⟩
theorem ext_obj {P : Program} {w : World} {H : Hp} {h : Heap} {xs : List (NestedKey × Addr × Value)} (hd : rawD P w d xs h) : ObjOk P w H h d (.ext (rawD P w d xs)) :=
  ⟨hd, let ⟨o, _, _, e, _⟩ := hd; ⟨o, e⟩, fun h1 h2 ⟨o, es, ep, g1, g2⟩ k => ⟨o, es, ep, k o g1, g2⟩⟩
theorem raw_of {P : Program} {w : World} {h : Heap} {xs : List (NestedKey × Addr × Value)} (hd : h.DictOfH (nestedKind P w) d xs) : rawD P w d xs h :=
  let ⟨o, es, ep, g1, g2, g3, g4, _, g5⟩ := hd; ⟨o, es, ep, g1, g2, g3, g4, g5⟩

theorem dm_write {h' : Heap} {tk : Nat} {xs : List (Map × Addr × Value)} {kvs' : List (Map × V)} (I : Inv X pins σ H s) (h : DM X.prog X.w X.K H d kvs) (hd : h'.DictOfH (nestedKind X.prog X.w) d (toK xs)) (hs : Heap.SameBut d s.heap h')
    (r : MT X.K H kvs' xs) (hl : kvs'.length ≤ sizeLine) :
    Inv X pins σ (upd H d (.ext (rawD X.prog X.w d (toK xs)))) { s with heap := h', toks := tk } ∧ DM X.prog X.w X.K (upd H d (.ext (rawD X.prog X.w d (toK xs)))) d kvs' := by
  obtain ⟨h1, h2, xs0, h3, h4⟩ := id h
  refine ⟨d_write I (by rw [h3]; trivial) hs (let ⟨o, _, _, e, _⟩ := hd; ⟨o, e⟩) (ext_obj (raw_of hd)), h1, hl, xs, upd_same, r.tk (h.tkm _)⟩
end

/-! ### readings by values -/
section
variable {X : Cx} {pins : List (Addr × Obj)} {σ : L2.St}
def rGetM (P : Program) (w : World) (K : PySem.W.Frag) : R2 := fun x y H Q => ∃ d kvs m v, x = .ref d ∧ DM P w K H d kvs ∧ TD K H y (chd m) ∧ valV kvs m = some v ∧ Q v H
def rInM (P : Program) (w : World) (K : PySem.W.Frag) (neg : Bool) : R2 := fun y x H Q => ∃ d kvs m, x = .ref d ∧ DM P w K H d kvs ∧ TD K H y (chd m) ∧ Q (.bl (if neg then !(valV kvs m).isSome else (valV kvs m).isSome)) H
theorem room_nested {A : Around} (hu : A.units + 20 < cLine) : (nestedKind X.prog X.w).room A.in1 := by
  show A.units + 1 + 8 < cLine
  omega
theorem ref_key {K : PySem.W.Frag} {H : Hp} {y : V} {u : Value} {m : Map} (h : TD K H y (chd m)) (r : RelV y u) : ∃ a, y = .ref a ∧ u = .ref a := by
  obtain ⟨a, q, rfl, _⟩ := chd_inv h
  exact ⟨a, rfl, r⟩
theorem op_inM (hu : X.A.units + 20 < cLine) : OpR X (compareOp .In) (rInM X.prog X.w X.K false) := by
  intro pins s σ H y x v u Q I ry rx h
  obtain ⟨d, kvs, m, rfl, hd, hk, q⟩ := h
  cases (show u = Value.ref d from rx)
  obtain ⟨a, rfl, rfl⟩ := ref_key hk ry
  obtain ⟨g1, g2, xs, g3, g4⟩ := hd.of I
  refine wpAny_in_heap (room_nested hu) (key_at I hk) g1 g4 ?_
  rw [atKey_toK]
  refine ⟨.bl _, H, I.tok _, rfl, ?_⟩
  have e := (g3.val m).isSome_eq
  rw [Option.isSome_map] at e
  rw [← e]
  exact q
theorem op_notInM (hu : X.A.units + 20 < cLine) : OpR X (compareOp .NotIn) (rInM X.prog X.w X.K true) := by
  intro pins s σ H y x v u Q I ry rx h
  obtain ⟨d, kvs, m, rfl, hd, hk, q⟩ := h
  cases (show u = Value.ref d from rx)
  obtain ⟨a, rfl, rfl⟩ := ref_key hk ry
  obtain ⟨g1, g2, xs, g3, g4⟩ := hd.of I
  refine notIn_keyed (kvs := pairsH (toK xs)) (room_nested hu) (key_at I hk) g1 ⟨_, g4, rfl⟩ ?_
  rw [valueAt_pairsH, Option.isSome_map, atKey_toK]
  refine ⟨.bl _, H, I.tok _, rfl, ?_⟩
  have e := (g3.val m).isSome_eq
  rw [Option.isSome_map] at e
  rw [← e]
  exact q
theorem pe_getM {o i : Expr} {td ty : TE} {pos : Pos} (hu : X.A.units + 20 < cLine) (ho : PE X o td) (hi : PE X i ty) (hs : NoSl i) : PE X (.Subscript o i pos) (tOp (rGetM X.prog X.w X.K) td ty) := by
  refine ⟨fun pins s σ H Q I h => ?_⟩
  refine subD_of PySem.F.slot_dict_getitem.lookup hs (thn (ho.run pins s σ H _ I h) fun u s1 ⟨x, H1, I1, rx, q1⟩ => thn (hi.run pins s1 σ H1 _ I1 q1) fun iv s2 ⟨y, H2, I2, ry, q2⟩ => ?_)
  obtain ⟨d, kvs, m, v, rfl, hd, hk, hv, q⟩ := q2
  cases (show u = Value.ref d from rx)
  obtain ⟨a, rfl, rfl⟩ := ref_key hk ry
  obtain ⟨g1, g2, xs, g3, g4⟩ := hd.of I2
  refine ⟨g4.typeIs, ?_⟩
  have hval := g3.val m
  rw [hv] at hval
  cases e : atKey xs m with
  | none =>
    rw [e] at hval
    exact hval.elim
  | some p =>
    rw [e] at hval
    refine getItem_keyed (kvs := pairsH (toK xs)) (v := p.2) (room_nested hu) (key_at I2 hk) ⟨_, g4, rfl⟩ (by rw [valueAt_pairsH, atKey_toK, e]; rfl) ?_
    exact ⟨v, H2, I2.tok _, hval, q⟩
/-- d[k] = v, by values -/
def tPutM (P : Program) (w : World) (K : PySem.W.Frag) : TSet := fun o i v H Q => ∃ d kvs m, o = .ref d ∧ DM P w K H d kvs ∧ TD K H i (chd m) ∧ kvs.length < sizeLine ∧
  ∀ ob, DM P w K (upd H d ob) d (putK kvs m v) → Tk H (upd H d ob) → (∃ f, ob = .ext f) → Q (upd H d ob)
theorem set_putM (hu : X.A.units + 20 < cLine) : PSet X (tPutM X.prog X.w X.K) := by
  intro pins s σ H o i v ov iv u Q I ro ri rv h
  obtain ⟨d, kvs, m, rfl, hd, hk, hl, q⟩ := h
  cases (show ov = Value.ref d from ro)
  obtain ⟨a, rfl, rfl⟩ := ref_key hk ri
  obtain ⟨g1, g2, xs, g3, g4⟩ := hd.of I
  have hz : (toK xs).length ≤ sizeLine := by
    unfold toK
    rw [List.length_map, ← Paired.length g3]
    exact g2
  refine wpAny_setItem_heap (hsz := hz) (room_nested hu) (key_at I hk) g4 fun h' hm' hs => ?_
  rw [← storedH_toK] at hm'
  have hlp : (putK kvs m v).length ≤ sizeLine := by
    have := length_putK kvs m v
    omega
  obtain ⟨J, hd'⟩ := dm_write (tk := s.toks + (nestedKind X.prog X.w).draws (ckey m)) I hd hm' hs (g3.put m hk rv) hlp
  exact ⟨_, J, q _ hd' (hd.tkm _) ⟨_, rfl⟩⟩
def tNewM (P : Program) (w : World) (K : PySem.W.Frag) : TE := fun _ H Q => ∀ d ob, H d = none → DM P w K (upd H d ob) d [] → Q (.ref d) (upd H d ob)
theorem raw_new {P : Program} {w : World} (h : Heap) : rawD P w h.objs.size [] (h.push { cls := .type "dict", data := .dict #[] }) := raw_of (Heap.DictOfH.new h)
theorem sysm {H : Hp} {s : Shared} (I : Inv X pins σ H s) : (s.heap.objs.size == sysModules) = false := by
  have := I.big
  exact beq_eq_false_iff_ne.mpr (Nat.ne_of_gt this)
theorem pe_newM {pos : Pos} : PE X (.Dict [] [] pos) (tNewM X.prog X.w X.K) := ⟨fun pins s σ H Q I h =>
  wpAny_Dict_empty ⟨.ref s.heap.objs.size, _, I.laid (a := s.heap.objs.size) (o := .ext (rawD X.prog X.w s.heap.objs.size [])) (t' := s.toks) (fun _ _ q => Heap.get?_push_of_some _ q) (Nat.le_refl _) (ext_obj (raw_new s.heap)), rfl,
    h _ _ (I.hok.fresh (Nat.le_refl _)) ⟨sysm I, Nat.zero_le _, [], upd_same, .nil⟩⟩⟩
/-- {k: v} -/
def tOneM (P : Program) (w : World) (K : PySem.W.Frag) (tk tv : TE) : TE := fun σ H Q => ∀ d ob, H d = none → DM P w K (upd H d ob) d [] → tk σ (upd H d ob) fun x H1 => tv σ H1 fun v H2 => ∃ m, TD K H2 x (chd m) ∧ DM P w K H2 d [] ∧
  ∀ ob', DM P w K (upd H2 d ob') d [(m, v)] → Tk H2 (upd H2 d ob') → Q (.ref d) (upd H2 d ob')
theorem pe_oneM {k v : Expr} {tk tv : TE} {pos : Pos} (hu : X.A.units + 20 < cLine) (hk : PE X k tk) (hv : PE X v tv) : PE X (.Dict [some k] [v] pos) (tOneM X.prog X.w X.K tk tv) := by
  refine ⟨fun pins s σ H Q I q => ?_⟩
  have hn := I.hok.fresh (Nat.le_refl s.heap.objs.size)
  have I1 := I.laid (a := s.heap.objs.size) (o := .ext (rawD X.prog X.w s.heap.objs.size [])) (h' := s.heap.push { cls := .type "dict", data := .dict #[] }) (t' := s.toks) (fun _ _ z => Heap.get?_push_of_some _ z) (Nat.le_refl _) (ext_obj (raw_new s.heap))
  have d0 : DM X.prog X.w X.K (upd H s.heap.objs.size (.ext (rawD X.prog X.w s.heap.objs.size []))) s.heap.objs.size [] := ⟨sysm I, Nat.zero_le _, [], upd_same, .nil⟩
  have hp := pps_cons (pos := pos) hk hv (pps_nil (pos := pos))
  have q0 := q _ _ hn d0
  have hsh : (evalEachOpt [some k] X.env).zip ((evalEach [v] X.env).map fun v => do let x ← v; standAt pos; pure x) = (pairTrees [some k] [v] X.env pos).map fun p => (some p.1, p.2) := zip_pairTrees _ _ X.env pos rfl rfl
  rw [arm_eval_Dict, hsh, dictDisplay_pairs _ (by simp [pairTrees]) (by simp [pairTrees])]
  refine wpAny_bind (wpAny_standAt (wpAny_bind (wpAny_subDictH (knd := nestedKind X.prog X.w) (by show X.A.units + 8 < cLine; omega) (by simp [pairTrees]) ?_)))
  refine thn (hp.run pins _ σ _ (fun ps H2 => match ps with
    | [(x, v)] => ∃ m, TD X.K H2 x (chd m) ∧ DM X.prog X.w X.K H2 s.heap.objs.size [] ∧
      ∀ ob', DM X.prog X.w X.K (upd H2 s.heap.objs.size ob') s.heap.objs.size [(m, v)] → Tk H2 (upd H2 s.heap.objs.size ob') → Q (.ref s.heap.objs.size) (upd H2 s.heap.objs.size ob')
    | _ => False) I1 q0) fun ws s2 h2 => ?_
  obtain ⟨ps, H2, I2, rel, hq⟩ := h2
  match ps, rel, hq with
  | [(x, y)], .cons r1 .nil, ⟨m, hx, hd, hq⟩ =>
    obtain ⟨a, rfl, e1⟩ := ref_key hx r1.1
    obtain ⟨g1, g2, xs, g3, g4⟩ := hd.of I2
    cases g3
    refine ⟨[(ckey m, a, _)], ⟨e1, rfl, key_at I2 hx, trivial⟩, g4, fun h' tk hm hs => wpAny_pure ?_⟩
    obtain ⟨J, hd'⟩ := dm_write (tk := tk) (kvs' := [(m, y)]) (xs := [(m, a, _)]) I2 hd hm hs (.cons ⟨rfl, hx, r1.2⟩ .nil) (by show 1 ≤ sizeLine; decide)
    exact ⟨.ref s.heap.objs.size, _, J, rfl, hq _ hd' (hd.tkm _)⟩
end
end SL

set_option maxHeartbeats 2000000
/-! dicts whose keys are maps: get, list, values -/
namespace SL
open PySem PySem.Spec PyProof.Rows L2 GxR

theorem mt_at {K : PySem.W.Frag} {H : Hp} {kvs : List (Map × V)} {xs : List (Map × Addr × Value)} (r : MT K H kvs xs) : ∀ {i : Nat} {x : Map × Addr × Value}, xs[i]? = some x → ∃ p, kvs[i]? = some p ∧ p.1 = x.1 ∧ TD K H (.ref x.2.1) (chd p.1) ∧ RelV p.2 x.2.2 := by
  induction r with
  | nil => intro i x e; simp at e
  | @cons p q ps qs h t ih =>
    intro i x e
    cases i with
    | zero =>
      have e' : q = x := by simpa using e
      subst e'
      exact ⟨p, rfl, h⟩
    | succ i =>
      obtain ⟨p', e1, e2⟩ := ih (i := i) (x := x) (by simpa using e)
      exact ⟨p', by simpa using e1, e2⟩
theorem refs_vals : ∀ l : List Value, (∀ u ∈ l, ∃ a, u = Value.ref a) → ∃ ys : List V, Vals ys l
  | [], _ => ⟨[], .nil⟩
  | u :: us, h => by
    obtain ⟨a, rfl⟩ := h u List.mem_cons_self
    obtain ⟨ys, hy⟩ := refs_vals us fun u hu => h u (List.mem_cons_of_mem _ hu)
    exact ⟨.ref a :: ys, .cons rfl hy⟩
section
variable {X : Cx} {pins : List (Addr × Obj)} {σ : L2.St} {H H' : Hp} {s : Shared} {d : Addr} {kvs : List (Map × V)}
/-- d.get(k) -/
def tGetM (P : Program) (w : World) (K : PySem.W.Frag) (td ty : TE) : TE := fun σ H Q => td σ H fun x H1 => ∃ d kvs, x = .ref d ∧ DM P w K H1 d kvs ∧ ty σ H1 fun y H2 => ∃ m, TD K H2 y (chd m) ∧ DM P w K H2 d kvs ∧ Q ((valV kvs m).getD .non) H2
theorem pe_get1M {o e : Expr} {td ty : TE} {apos cpos : Pos} (hu : X.A.units + 20 < cLine) (ho : PE X o td) (he : PE X e ty) (m : M1 X o "get" apos e cpos) : PE X (.Call (.Attribute o "get" apos) [e] [] cpos) (tGetM X.prog X.w X.K td ty) := by
  refine ⟨fun pins s σ H Q I h => ?_⟩
  refine wpAny_Call_method m.base m.few m.line PySem.F.plainAttrs_dict PySem.F.slot_dict_get PySem.F.type_dict_get (thn (ho.run pins s σ H _ I h) fun u s1 ⟨x, H1, I1, rx, q1⟩ => ?_)
  obtain ⟨d, kvs, rfl, hd, q1⟩ := q1
  cases (show u = Value.ref d from rx)
  obtain ⟨g1, g2, xs, g3, g4⟩ := hd.of I1
  refine ⟨g4.typeIs, (fun b q => ?_), ?_⟩
  · cases q
    obtain ⟨ob, _, _, h1, h2, _⟩ := g4
    exact ⟨ob, h1, h2.2.1⟩
  rw [m.trees]
  refine Calls.callWith_builtin rfl (Calls.evalArgs_plain (Calls.spliced_cons (thn (he.run pins s1 σ H1 _ I1 q1) fun iv s2 ⟨y, H2, I2, ry, q2⟩ => Calls.spliced_nil ?_)))
  obtain ⟨mp, hk, hd2, q2⟩ := q2
  obtain ⟨a, rfl, rfl⟩ := ref_key hk ry
  obtain ⟨k1, k2, ys, k3, k4⟩ := hd2.of I2
  refine get_keyed (kvs := pairsH (toK ys)) (room_nested hu) (key_at I2 hk) k1 ⟨_, k4, rfl⟩ ?_
  refine ⟨_, H2, I2.tok _, ?_, q2⟩
  rw [valueAt_pairsH, atKey_toK]
  exact (k3.val mp).getD rfl
/-- list(d) -/
def rListM (P : Program) (w : World) (K : PySem.W.Frag) : List V → Hp → VK → Prop := fun xs H Q => ∃ d kvs, xs = [.ref d] ∧ DM P w K H d kvs ∧ ∀ l ys, H l = none → TDs K H ys (kvs.map fun p => chd p.1) → Q (.ref l) (upd H l (.lst ys))
theorem tds_by {K : PySem.W.Frag} {H : Hp} : ∀ {ys : List V} {ds : List Dat}, ys.length = ds.length → (∀ (i : Nat) v d, ys[i]? = some v → ds[i]? = some d → TD K H v d) → TDs K H ys ds
  | [], [], _, _ => .nil
  | [], _ :: _, h, _ => by simp at h
  | _ :: _, [], h, _ => by simp at h
  | y :: ys, d :: ds, h, k => .cons (k 0 y d rfl rfl) (tds_by (by simpa using h) fun i v e h1 h2 => k (i + 1) v e (by simpa using h1) (by simpa using h2))
theorem call_listM (hc : X.calm = true) : CallR X (.type "list") (rListM X.prog X.w X.K) := by
  intro pins s σ H xs us Q I r h
  obtain ⟨d, kvs, rfl, hd, q⟩ := h
  obtain ⟨u, rfl, ru⟩ := r.one
  cases (show u = Value.ref d from ru)
  obtain ⟨g1, g2, xs, g3, g4⟩ := hd.of I
  obtain ⟨es, ep, hr, hsz, he⟩ := g4.raw
  have hlen : es.size = kvs.length := by
    rw [hsz]
    unfold toK
    rw [List.length_map]
    exact (Paired.length g3).symm
  have hkey : ∀ i (hi : i < es.size), ∃ a, es[i].key = .ref a ∧ ∀ p, kvs[i]? = some p → TD X.K H (.ref a) (chd p.1) := fun i hi => by
    obtain ⟨y, hy, e1, e2, _⟩ := he i hi
    unfold toK at hy
    rw [List.getElem?_map] at hy
    cases ex : xs[i]? with
    | none => rw [ex] at hy; cases hy
    | some x =>
      rw [ex] at hy
      cases hy
      obtain ⟨p, hp, h1, h2, _⟩ := mt_at g3 ex
      refine ⟨x.2.1, e1, fun p' hp' => ?_⟩
      rw [hp] at hp'
      cases hp'
      exact h2
  refine PySem.W.kdl_call (PySem.KdlSrc.rawDict (es := es) (ep := ep) g1) (I.ok.hd hc) hr (by rw [hlen]; exact g2) fun h' tk acc' c' hk hS' hacc => ?_
  have hitem : ∀ i (hi : i < es.size), ∃ a, acc'[i]? = some (.ref a) ∧ ∀ p, kvs[i]? = some p → TD X.K H (.ref a) (chd p.1) := fun i hi => by
    obtain ⟨a, e1, e2⟩ := hkey i hi
    have hi' : i < acc'.size := by rw [hacc.1]; exact hi
    obtain ⟨_, e3⟩ := hacc.2 i acc'[i] (Array.getElem?_eq_getElem hi')
    exact ⟨a, by rw [Array.getElem?_eq_getElem hi', e3, e1], e2⟩
  have hall : ∀ u ∈ acc'.toList, ∃ a, u = Value.ref a := fun u hu => by
    obtain ⟨i, hi, e⟩ := List.getElem_of_mem hu
    rw [Array.length_toList] at hi
    obtain ⟨a, e2, _⟩ := hitem i (by rw [← hacc.1]; exact hi)
    rw [Array.getElem?_eq_getElem hi] at e2
    rw [Array.getElem_toList] at e
    rw [← e]
    exact ⟨a, Option.some.inj e2⟩
  obtain ⟨ys, hv⟩ := refs_vals _ hall
  have hylen : ys.length = kvs.length := by
    rw [hv.length, Array.length_toList, hacc.1, hlen]
  have htd : TDs X.K H ys (kvs.map fun p => chd p.1) := by
    refine tds_by (by rw [hylen, List.length_map]) fun i v dd h1 h2 => ?_
    have hi : i < ys.length := (List.getElem?_eq_some_iff.mp h1).1
    obtain ⟨a, e2, e3⟩ := hitem i (by rw [hlen, ← hylen]; exact hi)
    obtain ⟨u, hu, ru⟩ := hv.get h1
    rw [Array.getElem?_toList, e2] at hu
    cases hu
    rw [List.getElem?_map] at h2
    cases ek : kvs[i]? with
    | none => rw [ek] at h2; cases h2
    | some p =>
      rw [ek] at h2
      cases h2
      have := RelV.inj ru (show RelV (.ref a) (.ref a) from rfl)
      subst this
      exact e3 p ek
  have hn := I.hok.fresh (Nat.le_refl s.heap.objs.size)
  have J : Inv X pins σ (upd H s.heap.objs.size (.lst ys)) { s with heap := h', toks := tk } := I.laid hk (Nat.le_refl _) ⟨by rw [hylen]; exact g2, acc'.toList, c', hv, by rw [hS']⟩
  exact ⟨.ref s.heap.objs.size, _, J, rfl, q _ ys hn htd⟩
end
end SL

set_option maxHeartbeats 2000000
/-! dicts whose keys are maps: their values walked -/
namespace SL
open PySem PySem.Spec PyProof.Rows L2 GxR

/-- the values of the dict at d, which is locked as ob -/
def ItvM (d : Addr) (ob : HO) (kvs : List (Map × V)) : It :=
  ⟨fun i H => H d = some ob ∧ i < kvs.length, fun i H x H' => H' = H ∧ ∃ m, kvs[i]? = some (m, x), fun i H => H d = some ob ∧ kvs.length ≤ i⟩
theorem mt_get {K : PySem.W.Frag} {H : Hp} {kvs : List (Map × V)} {xs : List (Map × Addr × Value)} (r : MT K H kvs xs) : ∀ {i : Nat} {p : Map × V}, kvs[i]? = some p → ∃ x, xs[i]? = some x ∧ RelV p.2 x.2.2 := by
  induction r with
  | nil => intro i x e; simp at e
  | @cons p q ps qs h t ih =>
    intro i x e
    cases i with
    | zero =>
      have e' : p = x := by simpa using e
      subst e'
      exact ⟨q, rfl, h.2.2⟩
    | succ i =>
      obtain ⟨p', e1, e2⟩ := ih (i := i) (p := x) (by simpa using e)
      exact ⟨p', by simpa using e1, e2⟩
theorem frz_raw {X : Cx} {pins : List (Addr × Obj)} {σ : L2.St} {H : Hp} {s : Shared} {d : Addr} {o : Obj} {zs : List (NestedKey × Addr × Value)} (I : Inv X pins σ H s) (h : H d = some (.frz o (.ext (rawD X.prog X.w d zs)))) :
    s.heap.get? d = some o ∧ o.ExactDict ∧ ∃ es ep, o.data = .dict es ep ∧ es.toList = zs.map (entryOfKey (nestedKind X.prog X.w)) := by
  obtain ⟨hd, ⟨o', es, ep, g1, g2, g3, g4, _⟩, _⟩ := I.hok d _ h
  rw [hd] at g1
  cases g1
  exact ⟨hd, g2, es, ep, g3, g4⟩
theorem turn_valsM {P : Program} {w : World} {K : PySem.W.Frag} {tg : Expr} {d : Addr} {o : Obj} {kvs : List (Map × V)} {xs : List (Map × Addr × Value)} {H0 : Hp} {es : Array DictEntry} {ep : Nat} (it : Addr) (hod : o.data = .dict es ep) (r : MT K H0 kvs xs) :
    Turn P w K tg (ItvM d (.frz o (.ext (rawD P w d (toK xs)))) kvs) [it] it (fun i h => h.IsValIter it d i es.size ep) where
  mem := by simp
  obj := fun i h st b hb => by
    have e : b = it := by simpa using hb
    subst e
    obtain ⟨oi, e1, c, dd⟩ := st
    exact ⟨oi, e1, fun v z => by rw [dd] at z; cases z⟩
  keep := fun i h h' st k => st.at fun oi e => k it (by simp) oi e
  item := by
    intro X hP hw hK hc i pins s σ H E I hf st hg
    subst hP hw hK
    obtain ⟨hd, hi⟩ := hg
    obtain ⟨f0, f1, f2, f3, f4, f5⟩ := hf it (by simp)
    obtain ⟨g1, g2, es', ep', g3, g4⟩ := frz_raw I hd
    rw [hod] at g3
    injection g3 with e1 e2
    subst e1 e2
    have hkv : kvs[i]? = some kvs[i] := List.getElem?_eq_getElem hi
    obtain ⟨x, hx, rx⟩ := mt_get r hkv
    have hsz : es.size = xs.length := by
      rw [size_of_entries g4]
      unfold toK
      rw [List.length_map]
    have hi' : i < es.size := by
      rw [hsz]
      exact (List.getElem?_eq_some_iff.mp hx).1
    have hev : es[i].val = x.2.2 := by
      have q := entry_at g4 i
      unfold toK at q
      rw [List.getElem?_map, hx, Array.getElem?_eq_getElem hi'] at q
      have q' := Option.some.inj q
      rw [q']
      rfl
    refine wpAny_pyNext_values_item_raw st ⟨o, g1, g2, hod⟩ hi' fun h' st' sb => ?_
    have I1 : Inv X pins σ H { s with heap := h' } := I.turned (t' := s.toks) (fun b ob hb e => (sb.2 b hb).trans e) f0 f1 f3 f4 f5
    obtain ⟨oi, e, c, dd⟩ := id st'
    refine ⟨es[i].val, rfl, go_of (s := { s with heap := h' }) e c dd (by decide) ⟨kvs[i].2, H, I1, by rw [hev]; exact rx, ⟨rfl, kvs[i].1, hkv⟩, st', fun b hb => (hf b hb).1⟩⟩
  done := by
    intro X hP hw hK hc i pins s σ H E I hf st hg
    subst hP hw hK
    obtain ⟨hd, hi⟩ := hg
    obtain ⟨f0, f1, f2, f3, f4, f5⟩ := hf it (by simp)
    obtain ⟨g1, g2, es', ep', g3, g4⟩ := frz_raw I hd
    rw [hod] at g3
    injection g3 with e1 e2
    subst e1 e2
    have hsz : es.size = kvs.length := by
      rw [size_of_entries g4, Paired.length r]
      unfold toK
      rw [List.length_map]
    exact wpAny_pyNext_values_end_raw (I.ok.hd hc) st ⟨o, g1, g2, hod⟩ (by rw [hsz]; exact hi) fun h' eb => ⟨rfl, I.turned (t' := s.toks) (fun b o hb e => eb b o hb e) f0 f1 f3 f4 f5⟩
  self := fun A i s Q E st h => wpAny_pyIter_valiter st h

def iValsM (P : Program) (w : World) (K : PySem.W.Frag) (td : TE) : TI := fun σ H R => td σ H fun x H1 => ∃ d kvs, x = .ref d ∧ DM P w K H1 d kvs ∧ ∀ ob, (∃ o u, ob = .frz o u) → Tk H1 (upd H1 d ob) → R (ItvM d ob kvs) (upd H1 d ob)
theorem pi_valuesM {X : Cx} {tg e : Expr} {td : TE} {apos cpos : Pos} (he : PE X e td) (hbase : attributeBase e "values" X.env (eval e X.env) = eval e X.env := by rfl) (hline : (apos.endLine == cpos.line) = true := by rfl) :
    PI X tg (.Call (.Attribute e "values" apos) [] [] cpos) (iValsM X.prog X.w X.K td) := by
  refine ⟨fun pins s σ H R I h => ?_⟩
  refine wpAny_Call_method (T := "dict") (id := "dict.values") hbase rfl hline F.plainAttrs_dict F.slot_dict_values F.type_dict_values (thn (he.run pins s σ H _ I h) fun u s1 ⟨x, H1, I1, rx, d, kvs, ex, hd, q⟩ => ?_)
  subst ex
  obtain rfl : u = Value.ref d := rx
  obtain ⟨h1, h2, xs, h3, h4⟩ := id hd
  obtain ⟨g1, g2, xs', g3, g4⟩ := hd.of I1
  refine ⟨g4.typeIs, fun b z => ?_, ?_⟩
  · cases z
    obtain ⟨ob, _, _, k1, k2, _⟩ := g4
    exact ⟨ob, k1, k2.2.1⟩
  obtain ⟨od, J⟩ := I1.lock h3 True.intro
  obtain ⟨k1, k2, es, ep, k3, k4⟩ := frz_raw J (upd_same : upd H1 d (.frz od (.ext (rawD X.prog X.w d (toK xs)))) d = _)
  have hraw : s1.heap.DictRaw d es ep := ⟨od, k1, k2, k3⟩
  have J2 : Inv X pins σ (upd H1 d (.frz od (.ext (rawD X.prog X.w d (toK xs))))) { s1 with heap := s1.heap.push { cls := .type "dict_values", data := .fields #[.ref d] } } := J.kept (t' := s1.toks) fun b ob q => Heap.get?_push_of_some _ q
  have fin : wpAny (model X.prog X.w) X.A (pyIter (.ref s1.heap.objs.size)) (PIE X pins σ tg R) X.xe { s1 with heap := s1.heap.push { cls := .type "dict_values", data := .fields #[.ref d] } } := by
    refine wpAny_pyIter_values_raw (d := d) (es := es) (ep := ep) ⟨_, Heap.get?_push_size _ rfl, rfl, rfl⟩ (hraw.push _) ?_
    exact pi_one (tk := s1.toks) J2 _ (turn_valsM _ k3 h4) ⟨_, Heap.get?_push_size _ rfl, rfl, rfl⟩ (q _ ⟨_, _, rfl⟩ (Tk.mutE h3))
  show wpAny _ _ (callWith cpos (.builtin "dict.values") [.ref d] [] []) _ X.xe s1
  exact method_meetsIn F.slot_dict_values F.entry_dict_values rfl (PySem.evalArgs_none ⟨rfl, g4.typeIs, F.args_dict_values_1 _, _, meets_dict_values_raw d h1, ⟨es, ep, hraw⟩, fin⟩)
end SL

set_option maxHeartbeats 2000000
/-! rules that the layer lacks: enumerate and max of a tuple -/
namespace SL
open PySem PySem.Spec PyProof.Rows L2 GxR

/-! ### max -/
def maxl (l : List Nat) : Nat := l.foldl max 0
theorem foldl_max (l : List Nat) : ∀ a : Nat, a ≤ l.foldl max a ∧ (∀ x ∈ l, x ≤ l.foldl max a) ∧ (l.foldl max a = a ∨ l.foldl max a ∈ l) := by
  induction l with
  | nil => intro a; exact ⟨Nat.le_refl _, fun x hx => (by cases hx), .inl rfl⟩
  | cons y l ih =>
    intro a
    obtain ⟨h1, h2, h3⟩ := ih (max a y)
    refine ⟨Nat.le_trans (Nat.le_max_left a y) h1, fun x hx => ?_, ?_⟩
    · rcases List.mem_cons.mp hx with rfl | hx
      · exact Nat.le_trans (Nat.le_max_right a x) h1
      · exact h2 x hx
    · rw [List.foldl_cons]
      rcases h3 with h3 | h3
      · rw [h3]
        by_cases h : a ≤ y
        · right
          rw [Nat.max_eq_right h]
          exact List.mem_cons_self
        · left
          exact Nat.max_eq_left (by omega)
      · right
        exact List.mem_cons_of_mem _ h3
theorem maxl_le {l : List Nat} {x : Nat} (h : x ∈ l) : x ≤ maxl l := (foldl_max l 0).2.1 x h
theorem maxl_mem {l : List Nat} (h : l ≠ []) : maxl l ∈ l := by
  rcases (foldl_max l 0).2.2 with e | e
  · cases l with
    | nil => exact absurd rfl h
    | cons y r =>
      have hy := maxl_le (l := y :: r) (x := y) List.mem_cons_self
      have e' : maxl (y :: r) = 0 := e
      rw [e'] at hy ⊢
      have : y = 0 := by omega
      rw [this]
      exact List.mem_cons_self
  · exact e
theorem maxl_eq {l : List Nat} {m : Nat} (h : m ∈ l) (h2 : ∀ y ∈ l, y ≤ m) : maxl l = m :=
  Nat.le_antisymm (h2 _ (maxl_mem fun z => by rw [z] at h; cases h)) (maxl_le h)
theorem nv_ints (l : List Nat) : l.map nv = (l.map fun n : Nat => (n : Int)).map V.int := by
  rw [List.map_map]
  rfl
def rMaxLn (K : PySem.W.Frag) : List V → Hp → VK → Prop := fun vs H Q => ∃ (a : Addr) (ns : List Nat), vs = [.ref a] ∧ SqL K H a (ns.map nv) ∧ ns ≠ [] ∧ Q (nv (maxl ns)) H
def rMaxTn (K : PySem.W.Frag) : List V → Hp → VK → Prop := fun vs H Q => ∃ (a : Addr) (ns : List Nat), vs = [.ref a] ∧ SqT K H a (ns.map nv) ∧ ns ≠ [] ∧ Q (nv (maxl ns)) H
theorem max_back {ns : List Nat} {m : Int} (h1 : m ∈ ns.map fun n : Nat => (n : Int)) (h2 : ∀ y, y ∈ (ns.map fun n : Nat => (n : Int)) → y ≤ m) : m = (maxl ns : Int) := by
  obtain ⟨k, hk, rfl⟩ := List.mem_map.mp h1
  have : maxl ns = k := maxl_eq hk fun y hy => by
    have := h2 (y : Int) (List.mem_map.mpr ⟨y, hy, rfl⟩)
    omega
  rw [this]
section
variable {X : Cx} {pins : List (Addr × Obj)} {σ : L2.St} {H H' : Hp} {s : Shared}
theorem cr_maxLn (hc : X.calm = true) : CallR X (.builtin "max") (rMaxLn X.K) := by
  intro pins s σ H vs us Q I r h
  obtain ⟨a, ns, rfl, hs, hne, q⟩ := h
  refine cr_max hc pins s σ H _ us Q I r ⟨a, ns.map fun n : Nat => (n : Int), rfl, by rw [← nv_ints]; exact hs, ?_, fun m h1 h2 => ?_⟩
  · rw [List.length_map]
    exact List.length_pos_iff.mpr hne
  · rw [max_back h1 h2]
    exact q
theorem cr_maxTn (hc : X.calm = true) : CallR X (.builtin "max") (rMaxTn X.K) := by
  intro pins s σ H vs us Q I r h
  obtain ⟨a, ns, rfl, hs, hne, q⟩ := h
  obtain ⟨its, rv, ht, hz⟩ := I.tuple hs
  rw [Vals.ref1 r]
  rw [nv_ints] at rv
  have hl : its.length = ns.length := by
    rw [← rv.length, List.length_map, List.length_map]
  have hat : ∀ (i : Nat) (v : Value), its.toArray[i]? = some v → ∃ t, v = Value.int ((ns.getD i 0 : Nat) : Int) t := fun i v e => by
    have e' : its[i]? = some v := by simpa using e
    have hi : i < ns.length := by
      rw [← hl]
      exact (List.getElem?_eq_some_iff.mp e').1
    have hx : ((ns.map fun n : Nat => (n : Int)).map V.int)[i]? = some (.int (ns[i] : Int)) := by
      rw [List.getElem?_map, List.getElem?_map, List.getElem?_eq_getElem hi]
      rfl
    obtain ⟨u, hu, t, rfl⟩ := rv.get hx
    rw [hu] at e'
    cases e'
    refine ⟨t, ?_⟩
    rw [List.getD_eq_getElem?_getD, List.getElem?_eq_getElem hi]
    rfl
  have hn : 0 < its.length := by
    rw [hl]
    exact List.length_pos_iff.mpr hne
  refine call_max_walk (wpAny_pyIter_tuple (show s.heap.IsTuple a its.toArray from ht) ?_)
  have hlt : a < s.heap.objs.size := ht.lt
  have keep : ∀ b o, s.heap.get? b = some o → (s.heap.push { cls := .type "tuple_iterator", data := .fields #[.ref a, .int 0 0] }).get? b = some o := fun b o e => Heap.get?_push_of_some _ e
  have ht2 : (s.heap.push { cls := .type "tuple_iterator", data := .fields #[.ref a, .int 0 0] }).IsTuple a its.toArray := (show s.heap.IsTuple a its.toArray from ht).at fun o e => keep a o e
  refine ⟨s.heap.objs.size, _, _, its.toArray.size, _, _, _, rfl, Walks.tuple (A := X.A.in1) (I.ok.hd hc) s.heap.objs.size a (Nat.ne_of_lt hlt) its.toArray, ⟨⟨_, Heap.get?_push_size _ rfl, rfl, rfl⟩, ht2⟩, fun b hb => ?_, by simpa using hn, CmpOf.ints_gt (fun i => ((ns.getD i 0 : Nat) : Int)) hat, fun v h' tk hP hk => ?_⟩
  · show b < (s.heap.push _).objs.size
    rw [Heap.size_push]
    rcases List.mem_cons.mp hb with z | z
    · rw [z]; exact Nat.lt_succ_self _
    · rw [List.mem_singleton.mp z]; exact Nat.lt_succ_of_lt hlt
  · obtain ⟨t, rfl⟩ := hat _ _ hP
    have hk2 : ∀ b o, s.heap.get? b = some o → h'.get? b = some o := fun b o e => hk b o (fun z => by
      rw [List.mem_singleton.mp z] at e
      exact absurd (Heap.lt_size e) (Nat.lt_irrefl _)) (keep b o e)
    obtain ⟨m1, m2⟩ := argBest_gt (fun i => ((ns.getD i 0 : Nat) : Int)) (its.toArray.size - 1)
    generalize argBest (fun i j => decide (((ns.getD i 0 : Nat) : Int) > ((ns.getD j 0 : Nat) : Int))) (its.toArray.size - 1) = j at m1 m2 hP
    have hsz : its.toArray.size = ns.length := by simpa using hl
    rw [hsz] at m1 m2
    have hj : j < ns.length := by
      have := List.length_pos_iff.mpr hne
      omega
    have hmem : ns.getD j 0 ∈ ns := by
      rw [List.getD_eq_getElem?_getD, List.getElem?_eq_getElem hj]
      exact List.getElem_mem hj
    have hmax : maxl ns = ns.getD j 0 := maxl_eq hmem fun y hy => by
      obtain ⟨i, hi, rfl⟩ := List.getElem_of_mem hy
      have q2 := m2 i (by omega)
      have e2 : ns.getD i 0 = ns[i] := by
        rw [List.getD_eq_getElem?_getD, List.getElem?_eq_getElem hi]
        rfl
      rw [e2] at q2
      omega
    rw [hmax] at q
    exact ⟨nv (ns.getD j 0), H, I.kept (t' := tk) hk2, ⟨t, rfl⟩, q⟩
end
end SL

set_option maxHeartbeats 2000000
/-! enumerate of a tuple -/
namespace SL
open PySem PySem.Spec PyProof.Rows L2 GxR

set_option maxHeartbeats 1000000 in
theorem meets_enum1 {v : Value} {o : Obj} {H : Heap → Prop} (B : Begins v o H) :
    Meets (Builtin.«enumerate.__new__» ⟨[.type "enumerate", v], []⟩) (fun _ R s => H s.heap ∧
      R (.ok (.ret (.ref (s.heap.push o).objs.size))) { s with heap := (s.heap.push o).push { cls := .type "enumerate", data := .fields #[.none, .bool false, .ref s.heap.objs.size, rawInt 0, .none, .none] } }) :=
  .of_wp fun prog w A R s h => by
    obtain ⟨hp, g, d, tk, os⟩ := s
    obtain ⟨h1, h⟩ := h
    have hsub := sub_enumerate
    have q1 : ∀ {A' : Around} {E : Value → Shared → Prop} {Q : Value → Shared → Prop}, Q (.ref hp.objs.size) ⟨hp.push o, g, d, tk, os⟩ → wpAny (model prog w) A' (pyIter v) Q E ⟨hp, g, d, tk, os⟩ :=
      fun q => B.iter prog w _ _ ⟨hp, g, d, tk, os⟩ _ h1 q
    wp_walk using q1
    refine wpAny_stack_any fun st => wpAny_pure ?_
    split
    · rename_i c _ _ _ _ _
      cases (c == Value.type "enumerate")
      · wp_walk using q1
        exact ⟨_, rfl, h⟩
      · wp_walk using q1
        exact ⟨_, rfl, h⟩
    · wp_walk using q1
      exact ⟨_, rfl, h⟩
section
variable {prog : Program} {w : World} {A : Around} {E : Value → Shared → Prop} {s : Shared}
theorem enum1_begins {v : Value} {o : Obj} {H : Heap → Prop} {Q : Value → Shared → Prop} (B : Begins v o H) (h1 : H s.heap)
    (h : ∀ h', IsEnum h' (s.heap.objs.size + 1) s.heap.objs.size 0 .none → h'.get? s.heap.objs.size = some o → (∀ b o, s.heap.get? b = some o → h'.get? b = some o) → Q (.ref (s.heap.objs.size + 1)) { s with heap := h' }) :
    wpAny (model prog w) A (call (.type "enumerate") [v]) Q E s := by
  refine callType_new F.called_enumerate (by decide) (F.typeCall_enumerate_1 _) (F.newCall_enumerate_1 _) (fun obj => F.args_object_init_2 obj _) F.entry_enumerate_new (meets_enum1 B) ⟨h1, ?_⟩
  have hz : (s.heap.push o).objs.size = s.heap.objs.size + 1 := Heap.size_push ..
  show _ ∧ _
  rw [hz]
  have he := Heap.get?_push_size (s.heap.push o) (o := { cls := .type "enumerate", data := .fields #[.none, .bool false, .ref s.heap.objs.size, rawInt 0, .none, .none] }) rfl
  rw [hz] at he
  exact ⟨⟨_, he, rfl⟩, h _ he (Heap.get?_push_of_some _ (Heap.get?_push_size _ B.free)) fun b ob x => Heap.get?_push_of_some _ (Heap.get?_push_of_some _ x)⟩
end
/-- the tuple at a, each item in a new pair with its place -/
def Itet (K : PySem.W.Frag) (a : Addr) : It :=
  ⟨fun i H => ∃ (xs : List V) (x : V), SqT K H a xs ∧ xs[i]? = some x, fun i H v H' => ∃ T x, v = .ref T ∧ H T = none ∧ H' = upd H T (.tup [.int (i : Nat), x]) ∧ ∀ xs, SqT K H a xs → xs[i]? = some x, fun i H => ∃ xs : List V, SqT K H a xs ∧ xs.length = i⟩
theorem turn_enumT {P : Program} {w : World} {K : PySem.W.Frag} {elts : List Expr} {kk : Nat} {tpos : Pos} (a e it : Addr) :
    Turn P w K (.Tuple elts kk tpos) (Itet K a) [e, it] e (fun i h => (∃ old, IsEnum h e it ((i : Nat) : Int) old) ∧ h.IsTupleIter it a i ∧ e ≠ it) where
  mem := by simp
  obj := fun i h st b hb => by
    obtain ⟨⟨old, he⟩, ⟨o, ho, hc, hd⟩, _⟩ := st
    rcases List.mem_cons.mp hb with z | z
    · rw [z]; exact ⟨_, he, fun v q => nomatch q⟩
    · rw [List.mem_singleton.mp z]; exact ⟨o, ho, fun v q => by rw [hd] at q; cases q⟩
  keep := fun i h h' st k => let ⟨⟨old, he⟩, hi, hne⟩ := st; ⟨⟨old, k e (by simp) _ he⟩, hi.at fun o q => k it (by simp) o q, hne⟩
  item := by
    intro X hP hw hK hc i pins s σ H E I hf st hg
    subst hP hw hK
    obtain ⟨⟨old, he⟩, hit, hne⟩ := st
    obtain ⟨xs, x, hq, hx⟩ := hg
    obtain ⟨its, rv, p, hz⟩ := I.tuple hq
    obtain ⟨u, hu, ru⟩ := rv.get hx
    have hp : s.heap.IsTuple a its.toArray := p
    have hae : e ≠ a := fun z => by
      obtain ⟨o, ho, hcl, _⟩ := hp
      rw [← z, he] at ho
      cases ho
      injection hcl with hcl
      exact absurd hcl (by decide)
    have hai : a ≠ it := fun z => by
      obtain ⟨o, ho, hcl, _⟩ := hp
      obtain ⟨o2, ho2, hcl2, _⟩ := hit
      rw [z, ho2] at ho
      cases ho
      rw [hcl2] at hcl
      injection hcl with hcl
      exact absurd hcl (by decide)
    have hel : e < s.heap.objs.size := Heap.lt_size he
    have hil : it < s.heap.objs.size := by obtain ⟨_, q, _⟩ := hit; exact Heap.lt_size q
    have W := WalksT.enumFrom 0 (Draws.tuple (prog := X.prog) (w := X.w) (A := X.A.in1) (I.ok.hd hc) it a hai its.toArray) e hne (by simp [hne, hae]) (by simp)
    have hlt : i < its.toArray.size := by
      have := (List.getElem?_eq_some_iff.mp hu).1
      simpa using this
    have e0 : (0 : Int) + (i : Int) = (i : Int) := Int.zero_add _
    refine W.item i s _ _ hlt ⟨⟨old, by rw [e0]; exact he⟩, hit, hp⟩ fun T vals h' tk hP hT ht hM hk => ?_
    obtain ⟨t, x', hx', rfl⟩ := hP
    have hu' : x' = u := by
      have : its[i]? = some x' := by simpa using hx'
      rw [hu] at this
      exact (Option.some.inj this).symm
    subst hu'
    refine ⟨.ref T, rfl, W.go elts kk tpos i T { s with heap := h', toks := tk } _ _ hM fun h'' hst' hk2 => ?_⟩
    have hTa : T ∉ [e, it] := W.apart i T h' hM
    have ht2 : IsTup h'' T #[.int (0 + (i : Int)) t, x'] := by
      obtain ⟨o, ho, r⟩ := ht
      exact ⟨o, hk2 T o hTa ho, r⟩
    rw [e0] at ht2
    have new : ObjOk X.prog X.w (upd H T (.tup [.int (i : Nat), x])) h'' T (.tup [.int (i : Nat), x]) :=
      ⟨by show 2 ≤ sizeLine; decide, [.int i t, x'], .cons ⟨_, rfl⟩ (.cons ru .nil), ht2⟩
    have I1 : Inv X pins σ (upd H T (.tup [.int (i : Nat), x])) { s with heap := h'', toks := tk } := I.turnedNew (ch := [e, it]) (fun b ob hb q => hk2 b ob hb (hk b ob hb q)) hf hT new
    obtain ⟨⟨old', he'⟩, hit', _⟩ := hst'
    refine ⟨.ref T, _, I1, rfl, ⟨T, x, rfl, I.hok.fresh hT, rfl, fun ys hy => by rw [I.tuple_inj hy hq]; exact hx⟩, ⟨⟨old', ?_⟩, hit', hne⟩, fun b hb => ?_⟩
    · have e1 : (0 : Int) + ((i + 1 : Nat) : Int) = ((i + 1 : Nat) : Int) := Int.zero_add _
      rw [e1] at he'
      exact he'
    · rw [upd_ne (fun z => hTa (by rw [← z]; exact hb))]
      exact (hf b hb).1
  done := by
    intro X hP hw hK hc i pins s σ H E I hf st hg
    subst hP hw hK
    obtain ⟨⟨old, he⟩, hit, hne⟩ := st
    obtain ⟨xs, hq, hx⟩ := hg
    obtain ⟨its, rv, p, hz⟩ := I.tuple hq
    have hp : s.heap.IsTuple a its.toArray := p
    have hae : e ≠ a := fun z => by
      obtain ⟨o, ho, hcl, _⟩ := hp
      rw [← z, he] at ho
      cases ho
      injection hcl with hcl
      exact absurd hcl (by decide)
    have hai : a ≠ it := fun z => by
      obtain ⟨o, ho, hcl, _⟩ := hp
      obtain ⟨o2, ho2, hcl2, _⟩ := hit
      rw [z, ho2] at ho
      cases ho
      rw [hcl2] at hcl
      injection hcl with hcl
      exact absurd hcl (by decide)
    have W := WalksT.enumFrom 0 (Draws.tuple (prog := X.prog) (w := X.w) (A := X.A.in1) (I.ok.hd hc) it a hai its.toArray) e hne (by simp [hne, hae]) (by simp)
    have hi : i = its.toArray.size := by
      rw [← hx, rv.length]
      simp
    have e0 : (0 : Int) + (i : Int) = (i : Int) := Int.zero_add _
    have hst : (∃ old, IsEnum s.heap e it (0 + ((its.toArray.size : Nat) : Int)) old) ∧ s.heap.IsTupleIter it a its.toArray.size ∧ s.heap.IsTuple a its.toArray := by
      rw [← hi, e0]
      exact ⟨⟨old, he⟩, hit, hp⟩
    refine W.done s _ _ hst fun h' tk hk => ⟨rfl, ?_⟩
    obtain ⟨f0, f1, f2, f3, f4, f5⟩ := hf it (by simp)
    refine I.step (g' := s.gens) (d' := s.drawn) (t' := tk) (ch := [e, it]) (fun b hb => ?_) (fun b o _ _ hcb eb _ => hk b o hcb eb) (fun b o _ _ hcb eb _ => ⟨o.slots, hk b o hcb eb⟩) (fun _ _ _ _ n => n) (fun b o hcb eb => ⟨o, hk b o hcb eb⟩) (fun _ _ q => q) (fun _ _ _ q => q) (fun b ps q => ⟨#[], by rw [q]; simp⟩) (fun m hm => ?_) (fun b u q => ?_) I.bare
    · exact ⟨(hf b hb).2.2.2.1, (hf b hb).2.1, (hf b hb).2.2.2.2.1, (hf b hb).2.2.2.2.2⟩
    · obtain ⟨o, es, ep, ho, r⟩ := hm
      exact ⟨o, es, ep, hk _ o (fun z => (hf _ z).2.1 rfl) ho, r⟩
    · refine (I.hok b u q).stay (fun c v hcv r => hk c v (fun z => ?_) r) (fun _ r => r) fun _ _ r => r
      have n0 := (hf c z).1
      rcases hcv with y | y
      · rw [y, q] at n0; cases n0
      · rw [y] at n0; cases n0
  self := fun A i s Q E st h => let ⟨⟨_, he⟩, _⟩ := st; wpAny_pyIter_enum he h
def iEnumT (K : PySem.W.Frag) (ta : TA) : TI := fun σ H R => ta σ H fun vs H1 => ∃ a xs, vs = [.ref a] ∧ SqT K H1 a xs ∧ R (Itet K a) H1
theorem pi_enumT {X : Cx} {e : Expr} {ta : TA} {p pos tpos : Pos} {elts : List Expr} {kk : Nat} (hg : Gl X "enumerate") (hm : X.mg "enumerate" = none) (ha : PA X [e] ta) (hs : starEach [e] X.env = [(false, eval e X.env)] := by rfl) :
    PI X (.Tuple elts kk tpos) (.Call (.Name "enumerate" p) [e] [] pos) (iEnumT X.K ta) := by
  refine ⟨fun pins s σ H R I h => ?_⟩
  refine Call_ (ld_blt I hg hm boot_enumerate (PyProof.Rows.callWith_type1 (thn (ha.run pos pins s σ H _ I h) fun us s1 ⟨vs, H1, I1, r1, q1⟩ => ?_) hs rfl))
  obtain ⟨a, xs, rfl, hq, q⟩ := q1
  rw [Vals.ref1 r1]
  obtain ⟨its, rv, p', hz⟩ := I1.tuple hq
  refine enum1_begins (begins_tuple a its.toArray) p' fun h' he hit hk => wpAny_pyIter_enum he ?_
  have I2 : Inv X pins σ H1 { s1 with heap := h' } := I1.kept (t' := s1.toks) hk
  refine ⟨s1.heap.objs.size + 1, [s1.heap.objs.size + 1, s1.heap.objs.size], _, _, H1, rfl, I2, turn_enumT a (s1.heap.objs.size + 1) s1.heap.objs.size, ⟨⟨.none, he⟩, ⟨_, hit, rfl, rfl⟩, Nat.succ_ne_self _⟩, fun b hb => ?_, q⟩
  have hle : s1.heap.objs.size ≤ b := by
    rcases List.mem_cons.mp hb with z | z
    · rw [z]; exact Nat.le_add_right _ _
    · rw [List.mem_singleton.mp z]; exact Nat.le_refl _
  exact I1.fpOk hle (I1.hok.fresh hle)
end SL

set_option maxHeartbeats 2000000
/-! data compared, maps sorted -/
namespace SL
open PySem PySem.Spec PyProof.Rows L2 GxR

mutual
def Dat.py : Dat → PyData
  | .non => .none
  | .bl b => .bool b
  | .int i => .int i
  | .tup ds => .tuple (Dat.pys ds)
def Dat.pys : List Dat → List PyData
  | [] => []
  | d :: ds => d.py :: Dat.pys ds
end
section
variable {K : PySem.W.Frag} {H : Hp}
mutual
theorem TD.dp : ∀ (d : Dat) (v : V), TD K H v d → Dp K H v d.py
  | .non, _, h => by cases h; exact .non
  | .bl b, _, h => by cases h; exact .bl b
  | .int i, _, h => by cases h; exact .int i
  | .tup ds, _, h => by
    cases h with
    | tup h1 h2 => exact .tup h1 (TDs.dp ds _ h2)
theorem TDs.dp : ∀ (ds : List Dat) (vs : List V), TDs K H vs ds → DpAll K H vs (Dat.pys ds)
  | [], _, h => by cases h; exact .nil
  | d :: ds, _, h => by
    cases h with
    | cons h1 h2 => exact .cons (TD.dp d _ h1) (TDs.dp ds _ h2)
end
end
theorem pys_nd : ∀ l : List Nat, Dat.pys (l.map nd) = (l.map fun n : Nat => (n : Int)).map .int
  | [] => rfl
  | n :: l => by
    rw [List.map_cons, Dat.pys, pys_nd l]
    rfl
def cenc (m : Map) : PyData := .tuple [.int (m.1 : Int), .tuple ((m.2.map fun n : Nat => (n : Int)).map .int)]
theorem chd_py (m : Map) : (chd m).py = cenc m := by
  unfold chd cenc lnd
  rw [Dat.py, Dat.pys, Dat.pys, Dat.pys, Dat.py, pys_nd]
  rfl
theorem cenc_alike (a b : Map) : PySem.W.alike (cenc a) (cenc b) = true := by
  unfold cenc
  simp only [PySem.W.alike, PySem.W.alikeAll, PySem.W.alike_ints, Bool.and_true]
section
variable {X : Cx} {pins : List (Addr × Obj)} {σ : L2.St} {H H' : Hp} {s : Shared}
/-- the values of a list of maps -/
def rSortM (K : PySem.W.Frag) : List V → Hp → VK → Prop := fun vs H Q => ∃ (a : Addr) (xs : List V) (ms : List Map), vs = [.ref a] ∧ SqL K H a xs ∧ TDs K H xs (ms.map chd) ∧
  ∀ (p : Addr) (ys : List V) (ns : List Map), ns.Perm ms → H p = none → TDs K H ys (ns.map chd) → Q (.ref p) (upd H p (.lst ys))
theorem vals_td {K : PySem.W.Frag} {H : Hp} : ∀ {xs : List V} {us : List Value} {ms : List Map}, TDs K H xs (ms.map chd) → Vals xs us → PySem.W.EachIs (fun u m => ∃ a, u = Value.ref a ∧ TD K H (.ref a) (chd m)) us ms
  | _, _, [], h, r => by
    cases h
    cases r
    exact .nil
  | _, _, m :: ms, h, r => by
    cases h with
    | cons h1 h2 =>
      cases r with
      | cons r1 r2 =>
        obtain ⟨a, rfl, rfl⟩ := ref_key h1 r1
        exact .cons ⟨a, rfl, h1⟩ (vals_td h2 r2)
theorem td_vals {K : PySem.W.Frag} {H : Hp} : ∀ {us : List Value} {ms : List Map}, PySem.W.EachIs (fun u m => ∃ a, u = Value.ref a ∧ TD K H (.ref a) (chd m)) us ms → ∃ xs, Vals xs us ∧ TDs K H xs (ms.map chd)
  | [], [], _ => ⟨[], .nil, .nil⟩
  | u :: us, m :: ms, h => by
    cases h with
    | cons h1 h2 =>
      obtain ⟨a, rfl, ha⟩ := h1
      obtain ⟨xs, hx, ht⟩ := td_vals h2
      exact ⟨.ref a :: xs, .cons rfl hx, .cons ha ht⟩
theorem cr_sortM (hu : X.A.units + 20 < cLine) : CallR X (.builtin "sorted") (rSortM X.K) := by
  intro pins s σ H vs us Q I r h
  obtain ⟨a, xs, ms, rfl, hs, ht, q⟩ := h
  obtain ⟨its, rv, hl, hz⟩ := I.list hs
  rw [Vals.ref1 r]
  have hlen : ms.length = xs.length := by
    have := ht.length
    rw [List.length_map] at this
    exact this.symm
  have er : PySem.W.EachIs (fun v b => ∃ as, Reads s.heap v (cenc b) as) its ms := (vals_td ht rv).mono fun u m ⟨b, e, hb⟩ => by
    have := Dp.reads I _ _ u (TD.dp _ _ hb) (by rw [e]; rfl)
    rw [chd_py] at this
    exact this
  refine PySem.W.sorted_data (enc := cenc) (bs := ms) hl.isList (vals_td ht rv) er (PySem.W.AllAlike.of cenc_alike) (PySem.W.Sortable.tuples fun b => ⟨_, _, rfl⟩) (by rw [hlen]; exact hz) (fun b _ => ?_) fun out h1 h2 => ?_
  · unfold cenc
    simp only [PyData.depth, PyData.depthAll, PySem.W.depth_ints]
    show X.A.units + 2 + _ < cLine
    have : max 0 (max (0 + 1) 0) + 1 = 2 := by decide
    omega
  · obtain ⟨ys, hy, hty⟩ := td_vals h2
    obtain ⟨ep, he'⟩ := PyProof.Rows.sortedAll_at s.heap its out.toArray
    have hly : ys.length ≤ sizeLine := by
      rw [hy.length, h1, hlen]
      exact hz
    refine ⟨.ref _, upd H (s.heap.objs.size + 1) (.lst ys), I.laid (t' := s.toks) (fun _ _ => PyProof.Rows.sortedAll_old) (Nat.le_succ _) ⟨hly, out, ep, hy, he'⟩, rfl, q _ ys _ (List.mergeSort_perm ms _) (I.hok.fresh (Nat.le_succ _)) hty⟩
end
end SL

set_option maxHeartbeats 2000000
/-! what an expression evaluates to: one pass over text and values -/
namespace SL
open PySem PySem.Spec PyProof.Rows L2 GxR GX

section
variable (X : Cx)
/-- the strongest readings -/
def WE (e : Expr) : TE := fun σ H Q => ∀ (pins : List (Addr × Obj)) (s : Shared), Inv X pins σ H s → wpAny (model X.prog X.w) X.A (eval e X.env) (EP X pins σ Q) X.xe s
def WT (e : Expr) : TT := fun σ H Q => ∀ (pins : List (Addr × Obj)) (s : Shared), Inv X pins σ H s → wpAny (model X.prog X.w) X.A (isTrue e X.env (eval e X.env)) (TP X pins σ Q) X.xe s
def WP (e : Expr) : TT := fun σ H Q => ∀ (whole : Sem Value) (pins : List (Addr × Obj)) (s : Shared), Inv X pins σ H s → wpAny (model X.prog X.w) X.A (isTrue e X.env whole) (TP X pins σ Q) X.xe s
def WA (es : List Expr) : TA := fun σ H Q => ∀ (pos : Pos) (pins : List (Addr × Obj)) (s : Shared), Inv X pins σ H s → wpAny (model X.prog X.w) X.A (spliced (backTo pos (starEach es X.env))) (AP X pins σ Q) X.xe s
def WS (st : Stmt) : TS := fun D σ H => ∀ (pins : List (Addr × Obj)) (s : Shared), Inv X pins σ H s → wpAny (model X.prog X.w) X.A (exec st X.env) (SP X pins D) X.xe s
def WB (sts : List Stmt) : TS := fun D σ H => ∀ (pins : List (Addr × Obj)) (s : Shared), Inv X pins σ H s → wpAny (model X.prog X.w) X.A (execs sts X.env) (SP X pins D) X.xe s
end
section
variable {X : Cx} {e : Expr} {es : List Expr} {st : Stmt} {sts : List Stmt}
theorem pwe : PE X e (WE X e) := ⟨fun pins s _ _ _ I h => h pins s I⟩
theorem pwt : PT X e (WT X e) := ⟨fun pins s _ _ _ I h => h pins s I⟩
theorem pwp : PW X e (WP X e) := ⟨fun wh pins s _ _ _ I h => h wh pins s I⟩
theorem pwa : PA X es (WA X es) := ⟨fun pos pins s _ _ _ I h => h pos pins s I⟩
theorem pws : PS X st (WS X st) := ⟨fun pins s _ _ _ I h => h pins s I⟩
theorem pwb : PSs X sts (WB X sts) := ⟨fun pins s _ _ _ I h => h pins s I⟩
theorem WE.of {t : TE} {σ : L2.St} {H : Hp} {Q : VK} (h : PE X e t) (q : t σ H Q) : WE X e σ H Q := fun pins s I => h.run pins s σ H Q I q
theorem WT.of {t : TT} {σ : L2.St} {H : Hp} {Q : Bool → Hp → Prop} (h : PT X e t) (q : t σ H Q) : WT X e σ H Q := fun pins s I => h.run pins s σ H Q I q
theorem WP.of {t : TT} {σ : L2.St} {H : Hp} {Q : Bool → Hp → Prop} (h : PW X e t) (q : t σ H Q) : WP X e σ H Q := fun wh pins s I => h.run wh pins s σ H Q I q
theorem WA.of {t : TA} {σ : L2.St} {H : Hp} {Q : List V → Hp → Prop} (h : PA X es t) (q : t σ H Q) : WA X es σ H Q := fun pos pins s I => h.run pos pins s σ H Q I q
theorem WS.of {t : TS} {σ : L2.St} {H : Hp} {D : Ends} (h : PS X st t) (q : t D σ H) : WS X st D σ H := fun pins s I => h.run pins s σ H D I q
theorem WB.of {t : TS} {σ : L2.St} {H : Hp} {D : Ends} (h : PSs X sts t) (q : t D σ H) : WB X sts D σ H := fun pins s I => h.run pins s σ H D I q
end

/-! ### what evaluates to what -/
abbrev RV2 := Hp → V → Hp → Prop
def EV (X : Cx) (σ : L2.St) (H : Hp) (e : Expr) (R : RV2) : Prop := ∀ H1, Ext H H1 → ∀ Q : VK, (∀ v H2, Ext H1 H2 → R H1 v H2 → Q v H2) → WE X e σ H1 Q
def ET (X : Cx) (σ : L2.St) (H : Hp) (e : Expr) (b : Bool) : Prop := ∀ H1, Ext H H1 → ∀ Q : Bool → Hp → Prop, (∀ H2, Ext H1 H2 → Q b H2) → WT X e σ H1 Q
def EW (X : Cx) (σ : L2.St) (H : Hp) (e : Expr) (b : Bool) : Prop := ∀ H1, Ext H H1 → ∀ Q : Bool → Hp → Prop, (∀ H2, Ext H1 H2 → Q b H2) → WP X e σ H1 Q
def isd (X : Cx) (d : Dat) : RV2 := fun _ v H => TD X.K H v d
def isr (v : V) : RV2 := fun _ v' _ => v' = v
/-- a list that may be read; a new one -/
def isl (X : Cx) (ds : List Dat) : RV2 := fun _ v H => ∃ a xs, v = .ref a ∧ SqL X.K H a xs ∧ TDs X.K H xs ds
def isn (X : Cx) (ds : List Dat) : RV2 := fun H0 v H => ∃ p xs, v = .ref p ∧ H0 p = none ∧ H p = some (.lst xs) ∧ TDs X.K H xs ds
inductive AD where
  | d (x : Dat)
  | l (xs : List Dat)
def AR (K : PySem.W.Frag) (H : Hp) (v : V) : AD → Prop
  | .d x => TD K H v x
  | .l ds => ∃ a xs, v = .ref a ∧ SqL K H a xs ∧ TDs K H xs ds
abbrev ARs (K : PySem.W.Frag) (H : Hp) : List V → List AD → Prop := Paired (AR K H)
def EA (X : Cx) (σ : L2.St) (H : Hp) (es : List Expr) (as : List AD) : Prop := ∀ H1, Ext H H1 → ∀ Q : List V → Hp → Prop, (∀ vs H2, Ext H1 H2 → ARs X.K H2 vs as → Q vs H2) → WA X es σ H1 Q
theorem AR.ext {K : PySem.W.Frag} {H H' : Hp} {v : V} (t : Ext H H') : ∀ {a : AD}, AR K H v a → AR K H' v a
  | .d x, h => TD.mono h t.tk
  | .l ds, ⟨a, xs, e, h1, h2⟩ => ⟨a, xs, e, t.sql h1, h2.mono t.tk⟩
theorem ARs.ext {K : PySem.W.Frag} {H H' : Hp} {vs : List V} {as : List AD} (h : ARs K H vs as) (t : Ext H H') : ARs K H' vs as := Paired.mapP h fun _ _ z => z.ext t

section
variable {X : Cx} {σ : L2.St} {H H' : Hp} {e a b c : Expr} {es : List Expr} {pos p : Pos} {R : RV2} {d d1 d2 : Dat} {i j k : Int} {v : V} {ds : List Dat}
theorem EV.by {t : TE} (h : PE X e t) (q : ∀ H1, Ext H H1 → ∀ Q : VK, (∀ v H2, Ext H1 H2 → R H1 v H2 → Q v H2) → t σ H1 Q) : EV X σ H e R := fun H1 x Q k => WE.of h (q H1 x Q k)
theorem ET.by {t : TT} {b : Bool} (h : PT X e t) (q : ∀ H1, Ext H H1 → ∀ Q : Bool → Hp → Prop, (∀ H2, Ext H1 H2 → Q b H2) → t σ H1 Q) : ET X σ H e b := fun H1 x Q k => WT.of h (q H1 x Q k)
theorem EV.mono (h : EV X σ H e R) (t : Ext H H') : EV X σ H' e R := fun H1 x Q k => h H1 (t.trans x) Q k
theorem ET.mono {b : Bool} (h : ET X σ H e b) (t : Ext H H') : ET X σ H' e b := fun H1 x Q k => h H1 (t.trans x) Q k
theorem EA.mono {as : List AD} (h : EA X σ H es as) (t : Ext H H') : EA X σ H' es as := fun H1 x Q k => h H1 (t.trans x) Q k
theorem EV.imp {R' : RV2} (h : EV X σ H e R) (q : ∀ H0 v H1, Ext H H0 → Ext H0 H1 → R H0 v H1 → R' H0 v H1) : EV X σ H e R' := fun H1 x Q k => h H1 x Q fun v H2 y r => k v H2 y (q _ _ _ x y r)
theorem EV.to (h : EV X σ H e (isd X d1)) (q : d1 = d2) : EV X σ H e (isd X d2) := q ▸ h
theorem EV.toI (h : EV X σ H e (isd X (.int i))) (q : i = j) : EV X σ H e (isd X (.int j)) := q ▸ h
theorem ET.to {b1 b2 : Bool} (h : ET X σ H e b1) (q : b1 = b2) : ET X σ H e b2 := q ▸ h
theorem EV.rd (h : EV X σ H e (isn X ds)) : EV X σ H e (isl X ds) := h.imp fun _ _ _ _ _ ⟨p, xs, e, _, h1, h2⟩ => ⟨p, xs, e, SqL.of h1, h2⟩

/-! names, constants -/
theorem v_n (i : Nat) {x : Str} (hσ : σ[i]? = some (some v)) (hd : TD X.K H v d) (hN : X.N[i]? = some x := by rfl) (hv : Vis X.env.scope x := by first | exact Or.inl rfl | exact Or.inr (Or.inl rfl) | exact Or.inr (Or.inr rfl)) (h1 : (x == ("__debug__" : Str)) = false := by decide)
    (h2 : (x == ("__classdict__" : Str)) = false := by decide) : EV X σ H (.Name x pos) (isd X d) :=
  EV.by (pe_var hN hv h1 h2) fun H1 x Q k => ⟨v, hσ, k v H1 (Ext.refl _) (hd.mono x.tk)⟩
theorem v_r (i : Nat) {x : Str} (hσ : σ[i]? = some (some v)) (hN : X.N[i]? = some x := by rfl) (hv : Vis X.env.scope x := by first | exact Or.inl rfl | exact Or.inr (Or.inl rfl) | exact Or.inr (Or.inr rfl)) (h1 : (x == ("__debug__" : Str)) = false := by decide)
    (h2 : (x == ("__classdict__" : Str)) = false := by decide) : EV X σ H (.Name x pos) (isr v) :=
  EV.by (pe_var hN hv h1 h2) fun H1 x Q k => ⟨v, hσ, k v H1 (Ext.refl _) rfl⟩
/-- a list in a slot -/
theorem v_l (i : Nat) {x : Str} {q : Addr} {xs : List V} (hσ : σ[i]? = some (some (.ref q))) (hl : SqL X.K H q xs) (hd : TDs X.K H xs ds) (hN : X.N[i]? = some x := by rfl) (hv : Vis X.env.scope x := by first | exact Or.inl rfl | exact Or.inr (Or.inl rfl) | exact Or.inr (Or.inr rfl)) (h1 : (x == ("__debug__" : Str)) = false := by decide)
    (h2 : (x == ("__classdict__" : Str)) = false := by decide) : EV X σ H (.Name x pos) (isl X ds) :=
  EV.by (pe_var hN hv h1 h2) fun H1 x Q k => ⟨.ref q, hσ, k _ H1 (Ext.refl _) ⟨q, xs, rfl, x.sql hl, hd.mono x.tk⟩⟩
theorem v_int {n : Nat} : EV X σ H (.Constant (.int i) n pos) (isd X (.int i)) := EV.by pe_int fun H1 x Q k => k _ H1 (Ext.refl _) (.int i)
theorem v_bl {n : Nat} {b : Bool} : EV X σ H (.Constant (.bool b) n pos) (isd X (.bl b)) := EV.by pe_bl fun H1 x Q k => k _ H1 (Ext.refl _) (.bl b)
theorem v_non {n : Nat} : EV X σ H (.Constant .none n pos) (isd X .non) := EV.by pe_non fun H1 x Q k => k _ H1 (Ext.refl _) .non
/-- a number of the module -/
theorem v_glob {x : Str} {t : Tok} (hm : X.mg x = some (.int i t)) (hg : Gl X x := by rfl) (hd : (x == ("__debug__" : Str)) = false := by decide) : EV X σ H (.Name x pos) (isd X (.int i)) :=
  EV.by (pe_glob hg hm (show RelV (.int i) _ from ⟨t, rfl⟩) hd) fun H1 x Q k => k _ H1 (Ext.refl _) (.int i)

/-! two operands -/
theorem ev_two {r : R2} {ta tb : TE} {R1 R2' : RV2} (ha : ∀ H1, Ext H H1 → ∀ Q : VK, (∀ v H2, Ext H1 H2 → R1 H1 v H2 → Q v H2) → ta σ H1 Q) (hb : ∀ H1, Ext H H1 → ∀ Q : VK, (∀ v H2, Ext H1 H2 → R2' H1 v H2 → Q v H2) → tb σ H1 Q)
    (hr : ∀ H0 H1 H2 x y, Ext H H0 → Ext H0 H1 → Ext H1 H2 → R1 H0 x H1 → R2' H1 y H2 → ∀ Q : VK, (∀ v H3, Ext H2 H3 → R H0 v H3 → Q v H3) → r x y H2 Q) :
    ∀ H1, Ext H H1 → ∀ Q : VK, (∀ v H2, Ext H1 H2 → R H1 v H2 → Q v H2) → tOp r ta tb σ H1 Q := fun H1 e1 Q k =>
  ha H1 e1 _ fun x H2 e2 r1 => hb H2 (e1.trans e2) _ fun y H3 e3 r2 => hr H1 H2 H3 x y e1 e2 e3 r1 r2 Q fun v H4 e4 r4 => k v H4 ((e2.trans e3).trans e4) r4
theorem int_inv {K : PySem.W.Frag} (h : TD K H v (.int i)) : v = .int i := by cases h; rfl
theorem bl_inv {K : PySem.W.Frag} {b : Bool} (h : TD K H v (.bl b)) : v = .bl b := by cases h; rfl
theorem tup_inv {K : PySem.W.Frag} (h : TD K H v (.tup ds)) : ∃ a xs, v = .ref a ∧ SqT K H a xs ∧ TDs K H xs ds := by
  cases h with
  | tup h1 h2 => exact ⟨_, _, rfl, h1, h2⟩
theorem ii_I0 {g : Int → Int → V} (hz : ∀ H, TD X.K H (g i j) d) : ∀ H0 H1 H2 x y, Ext H H0 → Ext H0 H1 → Ext H1 H2 → isd X (.int i) H0 x H1 → isd X (.int j) H1 y H2 → ∀ Q : VK, (∀ v H3, Ext H2 H3 → isd X d H0 v H3 → Q v H3) → rI0 g x y H2 Q :=
  fun H0 H1 H2 x y _ _ _ r1 r2 Q k => ⟨i, j, int_inv r1, int_inv r2, k _ H2 (Ext.refl _) (hz _)⟩
theorem ii_I {C : Int → Int → Prop} {g : Int → Int → V} (hc : C i j) (hz : ∀ H, TD X.K H (g i j) d) : ∀ H0 H1 H2 x y, Ext H H0 → Ext H0 H1 → Ext H1 H2 → isd X (.int i) H0 x H1 → isd X (.int j) H1 y H2 → ∀ Q : VK, (∀ v H3, Ext H2 H3 → isd X d H0 v H3 → Q v H3) → rI C g x y H2 Q :=
  fun H0 H1 H2 x y _ _ _ r1 r2 Q k => ⟨i, j, int_inv r1, int_inv r2, hc, k _ H2 (Ext.refl _) (hz _)⟩
theorem v_add (ha : EV X σ H a (isd X (.int i))) (hb : EV X σ H b (isd X (.int j))) : EV X σ H (.BinOp a .Add b pos) (isd X (.int (i + j))) := EV.by (pe_op op_add pwe pwe) (ev_two ha hb (ii_I0 fun _ => .int _))
theorem v_sub (ha : EV X σ H a (isd X (.int i))) (hb : EV X σ H b (isd X (.int j))) : EV X σ H (.BinOp a .Sub b pos) (isd X (.int (i - j))) := EV.by (pe_op op_sub pwe pwe) (ev_two ha hb (ii_I0 fun _ => .int _))
theorem v_mul (ha : EV X σ H a (isd X (.int i))) (hb : EV X σ H b (isd X (.int j))) (hc : CMul i j) : EV X σ H (.BinOp a .Mult b pos) (isd X (.int (i * j))) := EV.by (pe_op op_mul pwe pwe) (ev_two ha hb (ii_I hc fun _ => .int _))
theorem v_mod (ha : EV X σ H a (isd X (.int i))) (hb : EV X σ H b (isd X (.int j))) (hc : 0 < j) : EV X σ H (.BinOp a .Mod b pos) (isd X (.int (i % j))) := EV.by (pe_op op_mod pwe pwe) (ev_two ha hb (ii_I hc fun _ => .int _))
theorem v_fdiv (ha : EV X σ H a (isd X (.int i))) (hb : EV X σ H b (isd X (.int j))) (hc : CDiv i j) : EV X σ H (.BinOp a .FloorDiv b pos) (isd X (.int (i / j))) := EV.by (pe_op op_fdiv pwe pwe) (ev_two ha hb (ii_I hc fun _ => .int _))
theorem v_pow (ha : EV X σ H a (isd X (.int i))) (hb : EV X σ H b (isd X (.int j))) (hc : CPow i j) : EV X σ H (.BinOp a .Pow b pos) (isd X (.int (i ^ j.toNat))) := EV.by (pe_op op_pow pwe pwe) (ev_two ha hb (ii_I hc fun _ => .int _))

/-! tests -/
theorem et_cmp {op : CmpOp} {r : R2} {R1 R2' : RV2} {q : Bool} (ho : OpR X (compareOp op) r) (ha : EV X σ H a R1) (hb : EV X σ H b R2') (hr : ∀ H0 H1 H2 x y, Ext H H0 → Ext H0 H1 → Ext H1 H2 → R1 H0 x H1 → R2' H1 y H2 → ∀ Q : VK, Q (.bl q) H2 → r x y H2 Q)
    (hm : behindInMarks op b = false) : ET X σ H (.Compare a [op] [b] pos) q :=
  ET.by (pt_cmpR ho pwe pwe hm) fun H1 e1 Q k => ha H1 e1 _ fun x H2 e2 r1 => hb H2 (e1.trans e2) _ fun y H3 e3 r2 => hr H1 H2 H3 x y e1 e2 e3 r1 r2 _ ⟨q, rfl, k H3 (e2.trans e3)⟩
theorem t_lt (ha : EV X σ H a (isd X (.int i))) (hb : EV X σ H b (isd X (.int j))) : ET X σ H (.Compare a [.Lt] [b] pos) (decide (i < j)) :=
  et_cmp op_lt ha hb (fun _ _ _ _ _ _ _ _ r1 r2 Q q => ⟨i, j, int_inv r1, int_inv r2, q⟩) (nomark _)
theorem t_le (ha : EV X σ H a (isd X (.int i))) (hb : EV X σ H b (isd X (.int j))) : ET X σ H (.Compare a [.LtE] [b] pos) (decide (i ≤ j)) :=
  et_cmp op_le ha hb (fun _ _ _ _ _ _ _ _ r1 r2 Q q => ⟨i, j, int_inv r1, int_inv r2, q⟩) (nomark _)
theorem t_gt (ha : EV X σ H a (isd X (.int i))) (hb : EV X σ H b (isd X (.int j))) : ET X σ H (.Compare a [.Gt] [b] pos) (decide (j < i)) :=
  et_cmp op_gt ha hb (fun _ _ _ _ _ _ _ _ r1 r2 Q q => ⟨i, j, int_inv r1, int_inv r2, q⟩) (nomark _)
theorem t_ge (ha : EV X σ H a (isd X (.int i))) (hb : EV X σ H b (isd X (.int j))) : ET X σ H (.Compare a [.GtE] [b] pos) (decide (j ≤ i)) :=
  et_cmp op_ge ha hb (fun _ _ _ _ _ _ _ _ r1 r2 Q q => ⟨i, j, int_inv r1, int_inv r2, q⟩) (nomark _)
theorem t_eq (ha : EV X σ H a (isd X (.int i))) (hb : EV X σ H b (isd X (.int j))) : ET X σ H (.Compare a [.Eq] [b] pos) (decide (i = j)) :=
  et_cmp op_eq ha hb (fun _ _ _ x y _ _ _ r1 r2 Q q => by
    rw [int_inv r1, int_inv r2]
    exact ⟨rfl, by rw [show decide (V.int i = V.int j) = decide (i = j) by simp]; exact q⟩) (nomark _)
theorem t_ne (ha : EV X σ H a (isd X (.int i))) (hb : EV X σ H b (isd X (.int j))) : ET X σ H (.Compare a [.NotEq] [b] pos) (!decide (i = j)) :=
  et_cmp op_ne ha hb (fun _ _ _ x y _ _ _ r1 r2 Q q => by
    rw [int_inv r1, int_inv r2]
    exact ⟨rfl, by rw [show decide (V.int i = V.int j) = decide (i = j) by simp]; exact q⟩) (nomark _)
theorem t_isn (ha : EV X σ H a (isd X d)) {n : Nat} {p2 : Pos} : ET X σ H (.Compare a [.Is] [.Constant .none n p2] pos) (match d with | .non => true | _ => false) :=
  et_cmp op_isN ha (v_non (pos := p2) (n := n)) (fun _ _ _ x y _ _ _ r1 r2 Q q => by
    cases r2
    refine ⟨rfl, ?_⟩
    cases r1 <;> exact q) (nomark _)
theorem t_b {q : Bool} (h : EV X σ H e (isd X (.bl q))) (he : ∀ whole, isTrue e X.env whole = (do let v ← whole; standAt e.pos; holding [v] (truthy v)) := by intro _; rfl) : ET X σ H e q :=
  ET.by (pt_val pwe he) fun H1 e1 Q k => h H1 e1 _ fun v H2 e2 r => ⟨q, bl_inv r, k H2 e2⟩
theorem t_not {q : Bool} (h : ET X σ H a q) : ET X σ H (.UnaryOp .Not a pos) (!q) := ET.by (pt_not pwt) fun H1 e1 Q k => h H1 e1 _ fun H2 e2 => k H2 e2
theorem t_w {q : Bool} (h : EW X σ H e q) : ET X σ H e q := fun H1 e1 Q k => WT.of (pwp.pt) (h H1 e1 Q k)
theorem w_and1 {q : Bool} (h : ET X σ H a q) : EW X σ H (.BoolOp .And [a] pos) q := fun H1 e1 Q k => WP.of (pw_and1 pwt) (h H1 e1 Q k)
theorem w_or1 {q : Bool} (h : ET X σ H a q) : EW X σ H (.BoolOp .Or [a] pos) q := fun H1 e1 Q k => WP.of (pw_or1 pwt) (h H1 e1 Q k)
theorem w_and {q r : Bool} {rest : List Expr} (h : ET X σ H a q) (h2 : q = true → EW X σ H (.BoolOp .And (b :: rest) pos) r) : EW X σ H (.BoolOp .And (a :: b :: rest) pos) (q && r) := fun H1 e1 Q k =>
  WP.of (pw_and pwt pwp) (h H1 e1 _ fun H2 e2 => by
    cases q with
    | true => exact h2 rfl H2 (e1.trans e2) Q fun H3 e3 => k H3 (e2.trans e3)
    | false => exact k H2 e2)
theorem w_or {q r : Bool} {rest : List Expr} (h : ET X σ H a q) (h2 : q = false → EW X σ H (.BoolOp .Or (b :: rest) pos) r) : EW X σ H (.BoolOp .Or (a :: b :: rest) pos) (q || r) := fun H1 e1 Q k =>
  WP.of (pw_or pwt pwp) (h H1 e1 _ fun H2 e2 => by
    cases q with
    | true => exact k H2 e2
    | false => exact h2 rfl H2 (e1.trans e2) Q fun H3 e3 => k H3 (e2.trans e3))
/-! .. as values -/
theorem v_and1 {op : BoolOp} (h : EV X σ H a R) : EV X σ H (.BoolOp op [a] pos) R := EV.by (pe_one pwe) h
theorem v_and {q r : Bool} {rest : List Expr} (h : EV X σ H a (isd X (.bl q))) (h2 : q = true → EV X σ H (.BoolOp .And (b :: rest) pos) (isd X (.bl r))) : EV X σ H (.BoolOp .And (a :: b :: rest) pos) (isd X (.bl (q && r))) :=
  EV.by (pe_and pwe pwe) fun H1 e1 Q k => h H1 e1 _ fun x H2 e2 r1 => ⟨q, bl_inv r1, by
    cases q with
    | true => exact h2 rfl H2 (e1.trans e2) Q fun v H3 e3 r3 => k v H3 (e2.trans e3) r3
    | false => exact k _ H2 e2 (.bl false)⟩
theorem v_or {q r : Bool} {rest : List Expr} (h : EV X σ H a (isd X (.bl q))) (h2 : q = false → EV X σ H (.BoolOp .Or (b :: rest) pos) (isd X (.bl r))) : EV X σ H (.BoolOp .Or (a :: b :: rest) pos) (isd X (.bl (q || r))) :=
  EV.by (pe_or pwe pwe) fun H1 e1 Q k => h H1 e1 _ fun x H2 e2 r1 => ⟨q, bl_inv r1, by
    cases q with
    | true => exact k _ H2 e2 (.bl true)
    | false => exact h2 rfl H2 (e1.trans e2) Q fun v H3 e3 r3 => k v H3 (e2.trans e3) r3⟩
theorem v_not {q : Bool} (h : EV X σ H a (isd X (.bl q))) : EV X σ H (.UnaryOp .Not a pos) (isd X (.bl (!q))) :=
  EV.by (pe_not pwe) fun H1 e1 Q k => h H1 e1 _ fun x H2 e2 r1 => ⟨q, bl_inv r1, k _ H2 e2 (.bl _)⟩
theorem v_cmp {op : CmpOp} {r : R2} {R1 R2' : RV2} {q : Bool} (ho : OpR X (compareOp op) r) (ha : EV X σ H a R1) (hb : EV X σ H b R2') (hr : ∀ H0 H1 H2 x y, Ext H H0 → Ext H0 H1 → Ext H1 H2 → R1 H0 x H1 → R2' H1 y H2 → ∀ Q : VK, Q (.bl q) H2 → r x y H2 Q)
    (hm : behindInMarks op b = false) : EV X σ H (.Compare a [op] [b] pos) (isd X (.bl q)) :=
  EV.by (pe_cmpR ho pwe pwe hm) fun H1 e1 Q k => ha H1 e1 _ fun x H2 e2 r1 => hb H2 (e1.trans e2) _ fun y H3 e3 r2 => hr H1 H2 H3 x y e1 e2 e3 r1 r2 _ (k _ H3 (e2.trans e3) (.bl q))
theorem v_if {q : Bool} (h : ET X σ H c q) (h1 : q = true → EV X σ H a R) (h2 : q = false → EV X σ H b R) (hR : ∀ H0 H1 v H2, Ext H0 H1 → R H1 v H2 → R H0 v H2) : EV X σ H (.IfExp c a b pos) R :=
  EV.by (pe_ifExp pwt pwe pwe) fun H1 e1 Q k => h H1 e1 _ fun H2 e2 => by
    cases q with
    | true => exact h1 rfl H2 (e1.trans e2) Q fun v H3 e3 r3 => k v H3 (e2.trans e3) (hR _ _ _ _ e2 r3)
    | false => exact h2 rfl H2 (e1.trans e2) Q fun v H3 e3 r3 => k v H3 (e2.trans e3) (hR _ _ _ _ e2 r3)
theorem v_ifd {q : Bool} (h : ET X σ H c q) (h1 : q = true → EV X σ H a (isd X d)) (h2 : q = false → EV X σ H b (isd X d)) : EV X σ H (.IfExp c a b pos) (isd X d) := v_if h h1 h2 fun _ _ _ _ _ r => r

/-! arguments, displays -/
theorem a_nil : EA X σ H [] [] := fun H1 _ Q k => WA.of pa_nil (k [] H1 (Ext.refl _) .nil)
theorem a_one {x : AD} {as : List AD} (h : EV X σ H e (fun _ v H => AR X.K H v x)) (hr : EA X σ H es as) (hs : starEach (e :: es) X.env = (false, eval e X.env) :: starEach es X.env := by rfl) : EA X σ H (e :: es) (x :: as) := fun H1 e1 Q k =>
  WA.of (pa_cons pwe pwa hs) (h H1 e1 _ fun v H2 e2 r => hr H2 (e1.trans e2) _ fun vs H3 e3 rs => k _ H3 (e2.trans e3) (.cons (r.ext e3) rs))
theorem a_d {as : List AD} (h : EV X σ H e (isd X d)) (hr : EA X σ H es as) (hs : starEach (e :: es) X.env = (false, eval e X.env) :: starEach es X.env := by rfl) : EA X σ H (e :: es) (.d d :: as) := a_one h hr hs
theorem a_l {as : List AD} (h : EV X σ H e (isl X ds)) (hr : EA X σ H es as) (hs : starEach (e :: es) X.env = (false, eval e X.env) :: starEach es X.env := by rfl) : EA X σ H (e :: es) (.l ds :: as) := a_one h hr hs
end
end SL

set_option maxHeartbeats 2000000
/-! what an expression evaluates to: displays, items, slices, calls -/
namespace SL
open PySem PySem.Spec PyProof.Rows L2 GxR GX StX

theorem ars_dats {K : PySem.W.Frag} {H : Hp} : ∀ {ds : List Dat} {vs : List V}, ARs K H vs (ds.map AD.d) → TDs K H vs ds
  | [], _, h => by cases h; exact .nil
  | d :: ds, _, h => by
    cases h with
    | cons h1 h2 => exact .cons h1 (ars_dats h2)
theorem ARs.length {K : PySem.W.Frag} {H : Hp} {vs : List V} {as : List AD} (h : ARs K H vs as) : vs.length = as.length := Paired.length h
section
variable {X : Cx} {σ : L2.St} {H H' : Hp} {e a b c : Expr} {es : List Expr} {pos p : Pos} {R : RV2} {d d1 d2 : Dat} {i j k : Int} {v : V} {ds : List Dat}
theorem v_tup {x1 : Nat} (h : EA X σ H es (ds.map AD.d)) (hl : ds.length ≤ sizeLine) : EV X σ H (.Tuple es x1 pos) (isd X (.tup ds)) :=
  EV.by (pe_tup pwa) fun H1 e1 Q k => h H1 e1 _ fun vs H2 e2 r => by
    have r' := ars_dats r
    refine ⟨by rw [r'.length]; exact hl, fun p hp => k _ _ (e2.trans (Ext.new hp)) (.tup (SqT.of upd_same) (r'.mono (Ext.new hp).tk))⟩
theorem v_lst (h : EA X σ H es (ds.map AD.d)) (hl : ds.length ≤ sizeLine) : EV X σ H (.List es pos) (isn X ds) :=
  EV.by (pe_lst pwa) fun H1 e1 Q k => h H1 e1 _ fun vs H2 e2 r => by
    have r' := ars_dats r
    refine ⟨by rw [r'.length]; exact hl, fun p hp => k _ _ (e2.trans (Ext.new hp)) ⟨p, vs, rfl, e2.free hp, upd_same, r'.mono (Ext.new hp).tk⟩⟩
/-- a starred tuple among the items -/
theorem a_star {as : List AD} {ps : Pos} (h : EV X σ H e (isd X (.tup ds))) (hr : EA X σ H es as) (hs : starEach (.Starred e ps :: es) X.env = (true, eval e X.env) :: starEach es X.env := by rfl) : EA X σ H (.Starred e ps :: es) (ds.map AD.d ++ as) := fun H1 e1 Q k =>
  WA.of (pa_star pwe pwa hs) (h H1 e1 _ fun v H2 e2 r => by
    obtain ⟨q, xs, rfl, h1, h2⟩ := tup_inv r
    refine ⟨q, xs, rfl, .inl h1, hr H2 (e1.trans e2) _ fun vs H3 e3 rs => k _ H3 (e2.trans e3) ?_⟩
    have := h2.mono e3.tk
    clear h1 h2 k hr r e2 h
    induction ds generalizing xs with
    | nil => cases this; exact rs
    | cons d ds ih =>
      cases this with
      | cons g1 g2 => exact .cons g1 (ih _ g2))

/-! items -/
theorem v_ixT {n : Nat} (ho : EV X σ H a (isd X (.tup ds))) (hi : EV X σ H b (isd X (.int (n : Int)))) (hd : ds[n]? = some d) (hp : PlainIx b := by intro _ _; rfl) : EV X σ H (.Subscript a b pos) (isd X d) :=
  EV.by (pe_ix ix_tup pwe pwe hp) (ev_two ho hi fun H0 H1 H2 x y e0 e1 e2 r1 r2 Q k => by
    obtain ⟨q, xs, rfl, h1, h2⟩ := tup_inv r1
    obtain ⟨u, hu, hud⟩ := h2.get hd
    exact ⟨q, xs, _, u, rfl, int_inv r2, e2.tk.sq h1, atI_nat hu, k u H2 (Ext.refl _) (hud.mono e2.tk)⟩)
theorem v_ixL {n : Nat} (ho : EV X σ H a (isl X ds)) (hi : EV X σ H b (isd X (.int (n : Int)))) (hd : ds[n]? = some d) (hp : PlainIx b := by intro _ _; rfl) : EV X σ H (.Subscript a b pos) (isd X d) :=
  EV.by (pe_ix ix_list pwe pwe hp) (ev_two ho hi fun H0 H1 H2 x y e0 e1 e2 r1 r2 Q k => by
    obtain ⟨q, xs, rfl, h1, h2⟩ := r1
    obtain ⟨u, hu, hud⟩ := h2.get hd
    exact ⟨q, xs, _, u, rfl, int_inv r2, e2.sql h1, atI_nat hu, k u H2 (Ext.refl _) (hud.mono e2.tk)⟩)
/-- the last item -/
theorem v_ixE {ds' : List Dat} (ho : EV X σ H a (isl X ds)) (hi : EV X σ H b (isd X (.int (-1)))) (hd : ds = ds' ++ [d]) (hp : PlainIx b := by intro _ _; rfl) : EV X σ H (.Subscript a b pos) (isd X d) :=
  EV.by (pe_ix ix_list pwe pwe hp) (ev_two ho hi fun H0 H1 H2 x y e0 e1 e2 r1 r2 Q k => by
    obtain ⟨q, xs, rfl, h1, h2⟩ := r1
    have hl := h2.length
    rw [hd, List.length_append, List.length_singleton] at hl
    have hne : xs ≠ [] := fun z => by rw [z] at hl; simp at hl
    have hx : xs = xs.dropLast ++ [xs.getLast hne] := (List.dropLast_concat_getLast hne).symm
    have hg : ds[xs.dropLast.length]? = some d := by
      rw [hd, List.length_dropLast, hl]
      simp
    obtain ⟨u, hu, hud⟩ := h2.get hg
    rw [hx] at hu
    have hu' : xs.getLast hne = u := by simpa using hu
    refine ⟨q, xs, _, u, rfl, int_inv r2, e2.sql h1, ?_, k u H2 (Ext.refl _) (hud.mono e2.tk)⟩
    rw [hx, hu']
    exact atI_last _ _)

/-! slices -/
def EO (X : Cx) (σ : L2.St) (H : Hp) (o : Option Expr) (r : Option Int) : Prop := ∃ to : TO, PO X o to ∧ ∀ H1, Ext H H1 → ∀ Q : Option Int → Hp → Prop, (∀ H2, Ext H1 H2 → Q r H2) → to σ H1 Q
theorem o_none : EO X σ H none none := ⟨_, po_none, fun H1 _ Q k => k H1 (Ext.refl _)⟩
theorem o_some (h : EV X σ H e (isd X (.int i))) : EO X σ H (some e) (some i) := ⟨_, po_some pwe, fun H1 e1 Q k => h H1 e1 _ fun v H2 e2 r => ⟨i, int_inv r, k H2 e2⟩⟩
def cutD (ds : List Dat) (lo hi : Option Int) : List Dat := (ds.drop (HT.sIx ds.length 0 lo)).take (HT.sIx ds.length ds.length hi - HT.sIx ds.length 0 lo)
theorem v_sliceT {lo hi : Option Expr} {l u : Option Int} {p2 : Pos} (ho : EV X σ H a (isd X (.tup ds))) (hl : EO X σ H lo l) (hu : EO X σ H hi u) : EV X σ H (.Subscript a (.Slice lo hi none p2) pos) (isd X (.tup (cutD ds l u))) := by
  obtain ⟨tl, pl, el⟩ := hl
  obtain ⟨tu, pu, eu⟩ := hu
  refine EV.by (pe_slice sl_tupA pwe pl pu) fun H1 e1 Q k => ho H1 e1 _ fun x H2 e2 r => el H2 (e1.trans e2) _ fun H3 e3 => eu H3 ((e1.trans e2).trans e3) _ fun H4 e4 => ?_
  obtain ⟨q, xs, rfl, h1, h2⟩ := tup_inv r
  have e24 := e3.trans e4
  have hlen := h2.length
  have hc : TDs X.K H4 (cutV xs l u) (cutD ds l u) := by
    unfold cutV cutD
    rw [hlen]
    exact ((h2.drop _).take _).mono e24.tk
  refine ⟨q, xs, rfl, e24.tk.sq h1, fun hw => ?_, fun hw p hp => ?_⟩
  · have hw' : cutV xs l u = xs := by
      unfold cutV
      rw [hw.1, hw.2, Nat.sub_zero, List.drop_zero, List.take_length]
    rw [hw'] at hc
    exact k _ H4 (e2.trans e24) (.tup (e24.tk.sq h1) hc)
  · exact k _ _ ((e2.trans e24).trans (Ext.new hp)) (.tup (SqT.of upd_same) (hc.mono (Ext.new hp).tk))
theorem v_sliceL {lo hi : Option Expr} {l u : Option Int} {p2 : Pos} (ho : EV X σ H a (isl X ds)) (hl : EO X σ H lo l) (hu : EO X σ H hi u) : EV X σ H (.Subscript a (.Slice lo hi none p2) pos) (isn X (cutD ds l u)) := by
  obtain ⟨tl, pl, el⟩ := hl
  obtain ⟨tu, pu, eu⟩ := hu
  refine EV.by (pe_slice sl_list pwe pl pu) fun H1 e1 Q k => ho H1 e1 _ fun x H2 e2 r => el H2 (e1.trans e2) _ fun H3 e3 => eu H3 ((e1.trans e2).trans e3) _ fun H4 e4 => ?_
  obtain ⟨q, xs, rfl, h1, h2⟩ := r
  have e24 := e3.trans e4
  have hlen := h2.length
  have hc : TDs X.K H4 (cutV xs l u) (cutD ds l u) := by
    unfold cutV cutD
    rw [hlen]
    exact ((h2.drop _).take _).mono e24.tk
  exact ⟨q, xs, rfl, e24.sql h1, fun p hp => k _ _ ((e2.trans e24).trans (Ext.new hp)) ⟨p, _, rfl, (e2.trans e24).free hp, upd_same, hc.mono (Ext.new hp).tk⟩⟩

/-! built-in functions -/
theorem v_B {x : Str} {id : String} {r : List V → Hp → VK → Prop} {as : List AD} (hc : CallR X (.builtin id) r) (hm : X.mg x = none) (hv : bootBuiltins x = some (.builtin id)) (ha : EA X σ H (e :: es) as)
    (hr : ∀ H0 H1 vs, Ext H H0 → Ext H0 H1 → ARs X.K H1 vs as → ∀ Q : VK, (∀ v H2, Ext H1 H2 → R H0 v H2 → Q v H2) → r vs H1 Q)
    (hg : Gl X x := by rfl) (hn : x ≠ "__name__" := by decide) (hdb : (x == ("__debug__" : Str)) = false := by decide)
    (he : starEach (e :: es) X.env = (false, eval e X.env) :: starEach es X.env := by rfl) (hpl : (backTo pos (starEach es X.env)).any (·.1) = false := by rfl) : EV X σ H (.Call (.Name x p) (e :: es) [] pos) R :=
  EV.by (pe_callB hc hg hm hv pwa hn hdb he hpl) fun H1 e1 Q k => ha H1 e1 _ fun vs H2 e2 rs => hr H1 H2 vs e1 e2 rs Q fun v H3 e3 r3 => k v H3 (e2.trans e3) r3
theorem v_Ty {x : Str} {T : String} {r : List V → Hp → VK → Prop} {as : List AD} (hc : CallR X (.type T) r) (hm : X.mg x = none) (hv : bootBuiltins x = some (.type T)) (ha : EA X σ H (e :: es) as)
    (hr : ∀ H0 H1 vs, Ext H H0 → Ext H0 H1 → ARs X.K H1 vs as → ∀ Q : VK, (∀ v H2, Ext H1 H2 → R H0 v H2 → Q v H2) → r vs H1 Q)
    (hg : Gl X x := by rfl) (hn : x ≠ "__name__" := by decide) (hdb : (x == ("__debug__" : Str)) = false := by decide)
    (he : starEach (e :: es) X.env = (false, eval e X.env) :: starEach es X.env := by rfl) (hpl : (backTo pos (starEach es X.env)).any (·.1) = false := by rfl) : EV X σ H (.Call (.Name x p) (e :: es) [] pos) R :=
  EV.by (pe_callTy hc hg hm hv pwa hn hdb he hpl) fun H1 e1 Q k => ha H1 e1 _ fun vs H2 e2 rs => hr H1 H2 vs e1 e2 rs Q fun v H3 e3 r3 => k v H3 (e2.trans e3) r3
theorem ars_one {K : PySem.W.Frag} {H : Hp} {vs : List V} {x : AD} (h : ARs K H vs [x]) : ∃ v, vs = [v] ∧ AR K H v x := by
  cases h with
  | cons h1 h2 =>
    cases h2
    exact ⟨_, rfl, h1⟩
theorem v_lenT (hm : X.mg "len" = none) (h : EV X σ H a (isd X (.tup ds))) (hg : Gl X "len" := by rfl) (he : starEach [a] X.env = (false, eval a X.env) :: starEach [] X.env := by rfl) (hpl : (backTo pos (starEach [] X.env)).any (·.1) = false := by rfl) : EV X σ H (.Call (.Name "len" p) [a] [] pos) (isd X (.int (ds.length : Int))) :=
  v_B call_len_seq hm PySem.boot_len (a_d h a_nil he) (fun H0 H1 vs e0 e1 rs Q k => by
    obtain ⟨v, rfl, r⟩ := ars_one rs
    obtain ⟨q, xs, rfl, h1, h2⟩ := tup_inv r
    refine ⟨q, xs, rfl, .inr h1, k _ H1 (Ext.refl _) ?_⟩
    rw [h2.length]
    exact .int _) hg (by decide) (by decide) he hpl
theorem v_lenL (hm : X.mg "len" = none) (h : EV X σ H a (isl X ds)) (hg : Gl X "len" := by rfl) (he : starEach [a] X.env = (false, eval a X.env) :: starEach [] X.env := by rfl) (hpl : (backTo pos (starEach [] X.env)).any (·.1) = false := by rfl) : EV X σ H (.Call (.Name "len" p) [a] [] pos) (isd X (.int (ds.length : Int))) :=
  v_B call_len_seq hm PySem.boot_len (a_l h a_nil he) (fun H0 H1 vs e0 e1 rs Q k => by
    obtain ⟨v, rfl, q, xs, rfl, h1, h2⟩ := ars_one rs
    refine ⟨q, xs, rfl, .inl h1, k _ H1 (Ext.refl _) ?_⟩
    rw [h2.length]
    exact .int _) hg (by decide) (by decide) he hpl
theorem v_maxT {ns : List Nat} (hcalm : X.calm = true) (hm : X.mg "max" = none) (h : EV X σ H a (isd X (lnd ns))) (hne : ns ≠ []) (hg : Gl X "max" := by rfl) (he : starEach [a] X.env = (false, eval a X.env) :: starEach [] X.env := by rfl) (hpl : (backTo pos (starEach [] X.env)).any (·.1) = false := by rfl) : EV X σ H (.Call (.Name "max" p) [a] [] pos) (isd X (nd (maxl ns))) :=
  v_B (cr_maxTn hcalm) hm boot_max (a_d h a_nil he) (fun H0 H1 vs e0 e1 rs Q k => by
    obtain ⟨v, rfl, r⟩ := ars_one rs
    obtain ⟨q, xs, rfl, h1, h2⟩ := tup_inv r
    rw [tds_int_inv h2] at h1
    exact ⟨q, ns, rfl, h1, hne, k _ H1 (Ext.refl _) (.int _)⟩) hg (by decide) (by decide) he hpl
theorem v_maxL {ns : List Nat} (hcalm : X.calm = true) (hm : X.mg "max" = none) (h : EV X σ H a (isl X (ns.map nd))) (hne : ns ≠ []) (hg : Gl X "max" := by rfl) (he : starEach [a] X.env = (false, eval a X.env) :: starEach [] X.env := by rfl) (hpl : (backTo pos (starEach [] X.env)).any (·.1) = false := by rfl) : EV X σ H (.Call (.Name "max" p) [a] [] pos) (isd X (nd (maxl ns))) :=
  v_B (cr_maxLn hcalm) hm boot_max (a_l h a_nil he) (fun H0 H1 vs e0 e1 rs Q k => by
    obtain ⟨v, rfl, q, xs, rfl, h1, h2⟩ := ars_one rs
    rw [tds_int_inv h2] at h1
    exact ⟨q, ns, rfl, h1, hne, k _ H1 (Ext.refl _) (.int _)⟩) hg (by decide) (by decide) he hpl
theorem v_toTup (hm : X.mg "tuple" = none) (h : EV X σ H a (isl X ds)) (hg : Gl X "tuple" := by rfl) (he : starEach [a] X.env = (false, eval a X.env) :: starEach [] X.env := by rfl) (hpl : (backTo pos (starEach [] X.env)).any (·.1) = false := by rfl) : EV X σ H (.Call (.Name "tuple" p) [a] [] pos) (isd X (.tup ds)) :=
  v_Ty call_tuple_of hm boot_tuple (a_l h a_nil he) (fun H0 H1 vs e0 e1 rs Q k => by
    obtain ⟨v, rfl, q, xs, rfl, h1, h2⟩ := ars_one rs
    exact ⟨q, xs, rfl, .inl ⟨h1, fun l hl => k _ _ (Ext.new hl) (.tup (SqT.of upd_same) (h2.mono (Ext.new hl).tk))⟩⟩) hg (by decide) (by decide) he hpl
theorem v_toLst (hm : X.mg "list" = none) (h : EV X σ H a (isd X (.tup ds))) (hg : Gl X "list" := by rfl) (he : starEach [a] X.env = (false, eval a X.env) :: starEach [] X.env := by rfl) (hpl : (backTo pos (starEach [] X.env)).any (·.1) = false := by rfl) : EV X σ H (.Call (.Name "list" p) [a] [] pos) (isn X ds) :=
  v_Ty call_list_of hm boot_list (a_d h a_nil he) (fun H0 H1 vs e0 e1 rs Q k => by
    obtain ⟨v, rfl, r⟩ := ars_one rs
    obtain ⟨q, xs, rfl, h1, h2⟩ := tup_inv r
    exact ⟨q, xs, rfl, .inr h1, fun l hl => k _ _ (Ext.new hl) ⟨l, xs, rfl, e1.free hl, upd_same, h2.mono (Ext.new hl).tk⟩⟩) hg (by decide) (by decide) he hpl
theorem v_intI (hm : X.mg "int" = none) (h : EV X σ H a (isd X (.int i))) (hg : Gl X "int" := by rfl) (he : starEach [a] X.env = (false, eval a X.env) :: starEach [] X.env := by rfl) (hpl : (backTo pos (starEach [] X.env)).any (·.1) = false := by rfl) : EV X σ H (.Call (.Name "int" p) [a] [] pos) (isd X (.int i)) :=
  v_Ty call_int1 hm boot_int (a_d h a_nil he) (fun H0 H1 vs e0 e1 rs Q k => by
    obtain ⟨v, rfl, r⟩ := ars_one rs
    exact .inl ⟨i, by rw [int_inv r], k _ H1 (Ext.refl _) (.int i)⟩) hg (by decide) (by decide) he hpl
theorem v_intB {q : Bool} (hm : X.mg "int" = none) (h : EV X σ H a (isd X (.bl q))) (hg : Gl X "int" := by rfl) (he : starEach [a] X.env = (false, eval a X.env) :: starEach [] X.env := by rfl) (hpl : (backTo pos (starEach [] X.env)).any (·.1) = false := by rfl) : EV X σ H (.Call (.Name "int" p) [a] [] pos) (isd X (.int (if q then 1 else 0))) :=
  v_Ty call_int1 hm boot_int (a_d h a_nil he) (fun H0 H1 vs e0 e1 rs Q k => by
    obtain ⟨v, rfl, r⟩ := ars_one rs
    exact .inr ⟨q, by rw [bl_inv r], k _ H1 (Ext.refl _) (.int _)⟩) hg (by decide) (by decide) he hpl
/-- isinstance of data with a built-in class -/
def Dat.ty : Dat → String
  | .non => "NoneType"
  | .bl _ => "bool"
  | .int _ => "int"
  | .tup _ => "tuple"
theorem sqT_ty {K : PySem.W.Frag} {H : Hp} {q : Addr} {xs : List V} (h : SqT K H q xs) : TyX K H (.ref q) (.type "tuple") := by
  rcases h with (h | ⟨o, h⟩) | ⟨o, its, n, h1, h2, _⟩
  · exact .base (.tup h)
  · exact .fTuple h
  · exact .kTuple h1 h2
theorem td_ty {K : PySem.W.Frag} {H : Hp} {v : V} {d : Dat} (h : TD K H v d) : TyX K H v (.type d.ty) := by
  cases h with
  | non => exact .base .non
  | bl b => exact .base (.bl b)
  | int i => exact .base (.int i)
  | tup h1 h2 => exact sqT_ty h1
theorem v_isi {T : Str} {tn : String} {q : Bool} {p2 : Pos} (hm : X.mg "isinstance" = none) (hmT : X.mg T = none) (hT : bootBuiltins T = some (.type tn)) (h : EV X σ H a (isd X d)) (hk : kitB d.ty tn = some q) (hg : Gl X "isinstance" := by rfl) (hgT : Gl X T := by rfl)
    (hn : T ≠ "__name__" := by decide) (hdb : (T == ("__debug__" : Str)) = false := by decide) (he : starEach [a, .Name T p2] X.env = (false, eval a X.env) :: starEach [.Name T p2] X.env := by rfl) (hpl : (backTo pos (starEach [.Name T p2] X.env)).any (·.1) = false := by rfl)
    (he2 : starEach [.Name T p2] X.env = (false, eval (.Name T p2) X.env) :: starEach [] X.env := by rfl) : EV X σ H (.Call (.Name "isinstance" p) [a, .Name T p2] [] pos) (isd X (.bl q)) :=
  EV.by (pe_callB call_isi hg hm boot_isinstance (pa_cons pwe (pa_cons (pe_bltn hgT hmT hT (show RelV (.ty tn) _ from rfl) hn hdb) pa_nil he2) he) (by decide) (by decide) he hpl) fun H1 e1 Q k =>
    h H1 e1 _ fun v H2 e2 r => ⟨v, .ty tn, .type d.ty, .type tn, q, rfl, .ty tn, td_ty r, kit_ty hk, k _ H2 e2 (.bl q)⟩

/-! defs -/
/-- what a def is worth: arguments as data, a result as data (a list: a new one); the tables stand -/
def Tabs (T : List Addr) (H : Hp) : Prop := ∀ P ∈ T, TabG H P
theorem Tabs.ext {T : List Addr} {H H' : Hp} (h : Tabs T H) (e : Ext H H') : Tabs T H' := fun P hP => e.tabg (h P hP)
def RR (K : PySem.W.Frag) (H0 : Hp) (v : V) (H : Hp) : AD → Prop
  | .d x => TD K H v x
  | .l ds => ∃ p xs, v = .ref p ∧ H0 p = none ∧ H p = some (.lst xs) ∧ TDs K H xs ds
def spR (K : PySem.W.Frag) (T : List Addr) (S : List AD → AD → Prop) : Sp := fun vs H Q _ => Tabs T H ∧ ∃ as r, ARs K H vs as ∧ S as r ∧ ∀ v H', Ext H H' → RR K H v H' r → Q v H'
theorem v_call {x : Str} {k : Nat} {f : Addr} {fd : FuncData} {ps : List Str} {T : List Addr} {S : List AD → AD → Prop} {as : List AD} (F : FnOk X.prog X.w X.K X.mg X.base CX0 k f fd ps (spR X.K T S)) (hr : Room k X.A) (hm : X.mg x = some (.ref f)) (hk : PySem.W.keepIn X.K (.ref f) = true) (hb : Binds X.K fd ps [])
    (hT : Tabs T H) (ha : EA X σ H (e :: es) as) (hS : S as (.d d)) (hg : Gl X x := by rfl) (hdb : (x == ("__debug__" : Str)) = false := by decide) (he : starEach (e :: es) X.env = (false, eval e X.env) :: starEach es X.env := by rfl) (hpl : (backTo pos (starEach es X.env)).any (·.1) = false := by rfl) :
    EV X σ H (.Call (.Name x p) (e :: es) [] pos) (isd X d) :=
  EV.by (pe_call F hr hg hm hk hb .nil (E := E0) pass0 pwa hdb he hpl) fun H1 e1 Q k => ha H1 e1 _ fun vs H2 e2 rs => by
    rw [List.append_nil]
    exact ⟨hT.ext (e1.trans e2), as, .d d, rs, hS, fun v H3 e3 r3 => k v H3 (e2.trans e3) r3⟩
theorem v_callL {x : Str} {k : Nat} {f : Addr} {fd : FuncData} {ps : List Str} {T : List Addr} {S : List AD → AD → Prop} {as : List AD} (F : FnOk X.prog X.w X.K X.mg X.base CX0 k f fd ps (spR X.K T S)) (hr : Room k X.A) (hm : X.mg x = some (.ref f)) (hk : PySem.W.keepIn X.K (.ref f) = true) (hb : Binds X.K fd ps [])
    (hT : Tabs T H) (ha : EA X σ H (e :: es) as) (hS : S as (.l ds)) (hg : Gl X x := by rfl) (hdb : (x == ("__debug__" : Str)) = false := by decide) (he : starEach (e :: es) X.env = (false, eval e X.env) :: starEach es X.env := by rfl) (hpl : (backTo pos (starEach es X.env)).any (·.1) = false := by rfl) :
    EV X σ H (.Call (.Name x p) (e :: es) [] pos) (isn X ds) :=
  EV.by (pe_call F hr hg hm hk hb .nil (E := E0) pass0 pwa hdb he hpl) fun H1 e1 Q k => ha H1 e1 _ fun vs H2 e2 rs => by
    rw [List.append_nil]
    refine ⟨hT.ext (e1.trans e2), as, .l ds, rs, hS, fun v H3 e3 r3 => k v H3 (e2.trans e3) ?_⟩
    obtain ⟨q, xs, h1, h2, h3, h4⟩ := r3
    exact ⟨q, xs, h1, e2.free h2, h3, h4⟩
end
end SL

set_option maxHeartbeats 2000000
/-! blocks and statements in the same style -/
namespace SL
open PySem PySem.Spec PyProof.Rows L2 GxR GX StX

section
variable {X : Cx} {σ : L2.St} {H : Hp} {D : Ends} {rest body body2 : List Stmt} {st : Stmt} {e a b c : Expr} {pos p p1 p2 p3 p4 : Pos} {R R1 R2' : RV2} {d d1 d2 d3 : Dat} {x y z : Str} {ds : List Dat}
/-- what is left behind a statement -/
abbrev Ends.go (D : Ends) (X : Cx) (rest : List Stmt) : Ends := { D with nx := WB X rest D }
theorem b_nil (h : D.nx σ H) : WB X [] D σ H := WB.of pss_nil h
theorem b_cons (h : WS X st (Ends.go D X rest) σ H) : WB X (st :: rest) D σ H := WB.of (pss_cons pws pwb) h
theorem b_set (i : Nat) (he : EV X σ H e R) (k : ∀ v H', Ext H H' → R H v H' → WB X rest D (σ.set i (some v)) H') (hN : X.N.Nodup := by assumption) (hi : X.N[i]? = some x := by rfl) (hx : Loc X.env.scope x := by first | exact Or.inl rfl | exact Or.inr rfl)
    (hs : swapsWith e (some (.Name x p)) pos.line X.env = pure false := by rfl) (hf : X.fn x = true ∨ X.env.scope.names.lookup x = some .local := by first | exact .inl rfl | exact .inr rfl) : WB X (.Assign [.Name x p] e pos :: rest) D σ H :=
  b_cons (WS.of (ps_set hN hi hx pwe hs hf) (he H (Ext.refl _) _ k))
theorem b_ret (he : EV X σ H e R) (k : ∀ v H', Ext H H' → R H v H' → D.rt v H') : WB X (.Return (some e) pos :: rest) D σ H := b_cons (WS.of (ps_ret pwe) (he H (Ext.refl _) _ k))
theorem b_if {q : Bool} (hc : ET X σ H c q) (h1 : q = true → ∀ H', Ext H H' → WB X body (Ends.go D X rest) σ H') (h2 : q = false → ∀ H', Ext H H' → WB X body2 (Ends.go D X rest) σ H') : WB X (.If c body body2 pos :: rest) D σ H :=
  b_cons (WS.of (ps_if pwt pwb pwb) (hc H (Ext.refl _) _ fun H1 e1 => by
    cases q with
    | true => exact h1 rfl H1 e1
    | false => exact h2 rfl H1 e1))
/-- xs.append(e), xs a slot -/
theorem b_app (i : Nat) {q : Addr} {xs : List V} (hσ : σ[i]? = some (some (.ref q))) (hq : H q = some (.lst xs)) (he : EV X σ H e R) (hl : xs.length < sizeLine) (k : ∀ v H', Ext H H' → R H v H' → WB X rest D σ (upd H' q (.lst (xs ++ [v]))))
    (hN : X.N[i]? = some x := by rfl) (hv : Vis X.env.scope x := by first | exact Or.inl rfl | exact Or.inr (Or.inl rfl) | exact Or.inr (Or.inr rfl)) (hd : (x == ("__debug__" : Str)) = false := by decide) (hcd : (x == ("__classdict__" : Str)) = false := by decide)
    (hbase : attributeBase (.Name x p1) "append" X.env (eval (.Name x p1) X.env) = eval (.Name x p1) X.env := by rfl)
    (hfew : ((backTo p3 (starEach (e :: []) X.env)).all (fun x => !x.1) && (backToKw p3 (keywordEach [] X.env)).all (fun x => x.1.isSome)
      && decide ((e :: []).length + ([] : List Keyword).length + (if ([] : List Keyword).isEmpty then 0 else 1) < 30)) = true := by rfl)
    (hline : (p2.endLine == p3.line) = true := by rfl) (hs : starEach (e :: []) X.env = (false, eval e X.env) :: starEach [] X.env := by rfl) (hplain : (backTo p3 (starEach [] X.env)).any (·.1) = false := by rfl)
    (hsw : swapsWith (.Call (.Attribute (.Name x p1) "append" p2) [e] [] p3) none p4.line X.env = pure false := by rfl) :
    WB X (.Expr (.Call (.Attribute (.Name x p1) "append" p2) [e] [] p3) p4 :: rest) D σ H :=
  b_cons (WS.of (ps_expr (pe_bm PySem.F.plainAttrs_list PySem.F.slot_list_append PySem.F.type_list_append mt_append (pe_var hN hv hd hcd) (pa_cons pwe pa_nil hs) hbase hfew hline hs hplain) hsw)
    ⟨.ref q, hσ, .inl ⟨rfl, _, SqL.of hq⟩, he H (Ext.refl _) _ fun v H1 e1 r => ⟨q, xs, v, rfl, rfl, e1.lst hq, hl, k v H1 e1 r⟩⟩)
/-- x, y = a, b with local names -/
theorem b_par (i j : Nat) {px py pt : Pos} {kt k2 pt2} (ha : EV X σ H a R1) (hb : EV X σ H b R2') (k : ∀ v w H1 H2, Ext H H1 → Ext H1 H2 → R1 H v H1 → R2' H1 w H2 → WB X rest D ((σ.set i (some v)).set j (some w)) H2)
    (hij : i ≠ j := by decide) (hc : X.calm = true := by rfl) (hN : X.N.Nodup := by assumption) (hi : X.N[i]? = some x := by rfl) (hj : X.N[j]? = some y := by rfl) (hx : X.env.scope.names.lookup x = some .local := by rfl) (hy : X.env.scope.names.lookup y = some .local := by rfl)
    (hs1 : starEach [a, b] X.env = (false, eval a X.env) :: starEach [b] X.env := by rfl) (hs2 : starEach [b] X.env = (false, eval b X.env) :: starEach [] X.env := by rfl)
    (hw : swappedStores [.Tuple [.Name x px, .Name y py] kt pt] (.Tuple [a, b] k2 pt2) X.env = pure (some [x, y]) := by rfl)
    (hs : swapsWithSole [.Tuple [.Name x px, .Name y py] kt pt] (.Tuple [a, b] k2 pt2) pos.line X.env = pure false := by rfl) :
    WB X (.Assign [.Tuple [.Name x px, .Name y py] kt pt] (.Tuple [a, b] k2 pt2) pos :: rest) D σ H :=
  b_cons (WS.of (ps_par hc hN hi hj hij hx hy (pa_cons pwe (pa_cons pwe pa_nil hs2) hs1) hw hs)
    (ha H (Ext.refl _) _ fun v H1 e1 r1 => hb H1 e1 _ fun w H2 e2 r2 => ⟨v, w, rfl, k v w H1 H2 e1 e2 r1 r2⟩))
theorem b_par3 (i j l : Nat) {R3 : RV2} {px py pz pt : Pos} {kt k2 pt2} (ha : EV X σ H a R1) (hb : EV X σ H b R2') (hcc : EV X σ H c R3)
    (k : ∀ u v w H1 H2 H3, Ext H H1 → Ext H1 H2 → Ext H2 H3 → R1 H u H1 → R2' H1 v H2 → R3 H2 w H3 → WB X rest D (((σ.set i (some u)).set j (some v)).set l (some w)) H3)
    (hij : i ≠ j := by decide) (hil : i ≠ l := by decide) (hjl : j ≠ l := by decide) (hc : X.calm = true := by rfl) (hN : X.N.Nodup := by assumption) (hi : X.N[i]? = some x := by rfl) (hj : X.N[j]? = some y := by rfl) (hl : X.N[l]? = some z := by rfl)
    (hx : X.env.scope.names.lookup x = some .local := by rfl) (hy : X.env.scope.names.lookup y = some .local := by rfl) (hz : X.env.scope.names.lookup z = some .local := by rfl)
    (hs1 : starEach [a, b, c] X.env = (false, eval a X.env) :: starEach [b, c] X.env := by rfl) (hs2 : starEach [b, c] X.env = (false, eval b X.env) :: starEach [c] X.env := by rfl) (hs3 : starEach [c] X.env = (false, eval c X.env) :: starEach [] X.env := by rfl)
    (hw : swappedStores [.Tuple [.Name x px, .Name y py, .Name z pz] kt pt] (.Tuple [a, b, c] k2 pt2) X.env = pure (some [x, y, z]) := by rfl)
    (hs : swapsWithSole [.Tuple [.Name x px, .Name y py, .Name z pz] kt pt] (.Tuple [a, b, c] k2 pt2) pos.line X.env = pure false := by rfl) :
    WB X (.Assign [.Tuple [.Name x px, .Name y py, .Name z pz] kt pt] (.Tuple [a, b, c] k2 pt2) pos :: rest) D σ H :=
  b_cons (WS.of (ps_par3 hc hN hi hj hl hij hil hjl hx hy hz (pa_cons pwe (pa_cons pwe (pa_cons pwe pa_nil hs3) hs2) hs1) hw hs)
    (ha H (Ext.refl _) _ fun u H1 e1 r1 => hb H1 e1 _ fun v H2 e2 r2 => hcc H2 (e1.trans e2) _ fun w H3 e3 r3 => ⟨u, v, w, rfl, k u v w H1 H2 H3 e1 e2 e3 r1 r2 r3⟩))
/-- x, y = a, b where the pair is made -/
theorem b_tup2 (i j : Nat) {px py pt : Pos} {kt k2 pt2} (ha : EV X σ H a R1) (hb : EV X σ H b R2') (k : ∀ v w H1 H2 H3, Ext H H1 → Ext H1 H2 → Ext H2 H3 → R1 H v H1 → R2' H1 w H2 → WB X rest D ((σ.set i (some v)).set j (some w)) H3)
    (hc : X.calm = true := by rfl) (hN : X.N.Nodup := by assumption) (hi : X.N[i]? = some x := by rfl) (hj : X.N[j]? = some y := by rfl) (hx : Loc X.env.scope x := by first | exact Or.inl rfl | exact Or.inr rfl) (hy : Loc X.env.scope y := by first | exact Or.inl rfl | exact Or.inr rfl)
    (hfx : X.fn x = true ∨ X.env.scope.names.lookup x = some .local := by first | exact .inl rfl | exact .inr rfl) (hfy : X.fn y = true ∨ X.env.scope.names.lookup y = some .local := by first | exact .inl rfl | exact .inr rfl)
    (hs1 : starEach [a, b] X.env = (false, eval a X.env) :: starEach [b] X.env := by rfl) (hs2 : starEach [b] X.env = (false, eval b X.env) :: starEach [] X.env := by rfl)
    (hn1 : (assignEach [.Name x px, .Name y py] X.env).map (·.2) = assign (.Name x px) X.env :: (assignEach [.Name y py] X.env).map (·.2) := by rfl) (hn2 : (assignEach [.Name y py] X.env).map (·.2) = assign (.Name y py) X.env :: (assignEach [] X.env).map (·.2) := by rfl)
    (hn3 : (assignEach [.Name x px, .Name y py] X.env).length = 2 := by rfl) (hn4 : (assignEach [.Name x px, .Name y py] X.env).findIdx? (·.1) = none := by rfl)
    (hs : swapsWithSole [.Tuple [.Name x px, .Name y py] kt pt] (.Tuple [a, b] k2 pt2) pos.line X.env = pure false := by rfl)
    (hw : swappedStores [.Tuple [.Name x px, .Name y py] kt pt] (.Tuple [a, b] k2 pt2) X.env = pure none := by rfl)
    (h1 : (assignEach [.Tuple [.Name x px, .Name y py] kt pt] X.env).map (·.2) = [assign (.Tuple [.Name x px, .Name y py] kt pt) X.env] := by rfl) :
    WB X (.Assign [.Tuple [.Name x px, .Name y py] kt pt] (.Tuple [a, b] k2 pt2) pos :: rest) D σ H :=
  b_cons (WS.of (ps_asg (pe_tup (pa_cons pwe (pa_cons pwe pa_nil hs2) hs1)) (pg_tup hc (pgs_cons (pg_name hN hi hx hfx) (pgs_cons (pg_name hN hj hy hfy) pgs_nil hn2) hn1) hn3 hn4) hs hw h1)
    (ha H (Ext.refl _) _ fun v H1 e1 r1 => hb H1 e1 _ fun w H2 e2 r2 => ⟨by simp [sizeLine_eq], fun p hp => ⟨p, [v, w], rfl, SqT.of upd_same, rfl, v, [w], rfl, w, [], rfl, rfl, k v w H1 H2 _ e1 e2 (Ext.new hp) r1 r2⟩⟩))
/-- x, y = a tuple of two -/
theorem b_unp (i j : Nat) {px py pt : Pos} {kt} (he : EV X σ H e (isd X (.tup [d1, d2]))) (k : ∀ v w H', Ext H H' → TD X.K H' v d1 → TD X.K H' w d2 → WB X rest D ((σ.set i (some v)).set j (some w)) H')
    (hc : X.calm = true := by rfl) (hN : X.N.Nodup := by assumption) (hi : X.N[i]? = some x := by rfl) (hj : X.N[j]? = some y := by rfl) (hx : Loc X.env.scope x := by first | exact Or.inl rfl | exact Or.inr rfl) (hy : Loc X.env.scope y := by first | exact Or.inl rfl | exact Or.inr rfl)
    (hfx : X.fn x = true ∨ X.env.scope.names.lookup x = some .local := by first | exact .inl rfl | exact .inr rfl) (hfy : X.fn y = true ∨ X.env.scope.names.lookup y = some .local := by first | exact .inl rfl | exact .inr rfl)
    (hn1 : (assignEach [.Name x px, .Name y py] X.env).map (·.2) = assign (.Name x px) X.env :: (assignEach [.Name y py] X.env).map (·.2) := by rfl) (hn2 : (assignEach [.Name y py] X.env).map (·.2) = assign (.Name y py) X.env :: (assignEach [] X.env).map (·.2) := by rfl)
    (hn3 : (assignEach [.Name x px, .Name y py] X.env).length = 2 := by rfl) (hn4 : (assignEach [.Name x px, .Name y py] X.env).findIdx? (·.1) = none := by rfl)
    (hs : swapsWithSole [.Tuple [.Name x px, .Name y py] kt pt] e pos.line X.env = pure false := by rfl)
    (hw : swappedStores [.Tuple [.Name x px, .Name y py] kt pt] e X.env = pure none := by rfl)
    (h1 : (assignEach [.Tuple [.Name x px, .Name y py] kt pt] X.env).map (·.2) = [assign (.Tuple [.Name x px, .Name y py] kt pt) X.env] := by rfl) :
    WB X (.Assign [.Tuple [.Name x px, .Name y py] kt pt] e pos :: rest) D σ H :=
  b_cons (WS.of (ps_asg pwe (pg_tup hc (pgs_cons (pg_name hN hi hx hfx) (pgs_cons (pg_name hN hj hy hfy) pgs_nil hn2) hn1) hn3 hn4) hs hw h1)
    (he H (Ext.refl _) _ fun u H1 e1 r => by
      obtain ⟨q, xs, rfl, h2, h3⟩ := tup_inv r
      cases h3 with
      | cons g1 g2 =>
        cases g2 with
        | cons g3 g4 =>
          cases g4
          exact ⟨q, _, rfl, h2, rfl, _, _, rfl, _, _, rfl, rfl, k _ _ H1 e1 g1 g3⟩))
theorem b_unp3 (i j l : Nat) {px py pz pt : Pos} {kt} (he : EV X σ H e (isd X (.tup [d1, d2, d3]))) (k : ∀ u v w H', Ext H H' → TD X.K H' u d1 → TD X.K H' v d2 → TD X.K H' w d3 → WB X rest D (((σ.set i (some u)).set j (some v)).set l (some w)) H')
    (hc : X.calm = true := by rfl) (hN : X.N.Nodup := by assumption) (hi : X.N[i]? = some x := by rfl) (hj : X.N[j]? = some y := by rfl) (hl : X.N[l]? = some z := by rfl) (hx : Loc X.env.scope x := by first | exact Or.inl rfl | exact Or.inr rfl) (hy : Loc X.env.scope y := by first | exact Or.inl rfl | exact Or.inr rfl) (hz : Loc X.env.scope z := by first | exact Or.inl rfl | exact Or.inr rfl)
    (hfx : X.fn x = true ∨ X.env.scope.names.lookup x = some .local := by first | exact .inl rfl | exact .inr rfl) (hfy : X.fn y = true ∨ X.env.scope.names.lookup y = some .local := by first | exact .inl rfl | exact .inr rfl) (hfz : X.fn z = true ∨ X.env.scope.names.lookup z = some .local := by first | exact .inl rfl | exact .inr rfl)
    (hn1 : (assignEach [.Name x px, .Name y py, .Name z pz] X.env).map (·.2) = assign (.Name x px) X.env :: (assignEach [.Name y py, .Name z pz] X.env).map (·.2) := by rfl) (hn2 : (assignEach [.Name y py, .Name z pz] X.env).map (·.2) = assign (.Name y py) X.env :: (assignEach [.Name z pz] X.env).map (·.2) := by rfl)
    (hn2' : (assignEach [.Name z pz] X.env).map (·.2) = assign (.Name z pz) X.env :: (assignEach [] X.env).map (·.2) := by rfl)
    (hn3 : (assignEach [.Name x px, .Name y py, .Name z pz] X.env).length = 3 := by rfl) (hn4 : (assignEach [.Name x px, .Name y py, .Name z pz] X.env).findIdx? (·.1) = none := by rfl)
    (hs : swapsWithSole [.Tuple [.Name x px, .Name y py, .Name z pz] kt pt] e pos.line X.env = pure false := by rfl)
    (hw : swappedStores [.Tuple [.Name x px, .Name y py, .Name z pz] kt pt] e X.env = pure none := by rfl)
    (h1 : (assignEach [.Tuple [.Name x px, .Name y py, .Name z pz] kt pt] X.env).map (·.2) = [assign (.Tuple [.Name x px, .Name y py, .Name z pz] kt pt) X.env] := by rfl) :
    WB X (.Assign [.Tuple [.Name x px, .Name y py, .Name z pz] kt pt] e pos :: rest) D σ H :=
  b_cons (WS.of (ps_asg pwe (pg_tup hc (pgs_cons (pg_name hN hi hx hfx) (pgs_cons (pg_name hN hj hy hfy) (pgs_cons (pg_name hN hl hz hfz) pgs_nil hn2') hn2) hn1) hn3 hn4) hs hw h1)
    (he H (Ext.refl _) _ fun u H1 e1 r => by
      obtain ⟨q, xs, rfl, h2, h3⟩ := tup_inv r
      cases h3 with
      | cons g1 g2 =>
        cases g2 with
        | cons g3 g4 =>
          cases g4 with
          | cons g5 g6 =>
            cases g6
            exact ⟨q, _, rfl, h2, rfl, _, _, rfl, _, _, rfl, _, _, rfl, rfl, k _ _ _ H1 e1 g1 g3 g5⟩))

/-! loops -/
/-- for x in range(n) -/
theorem b_forR (ix : Nat) {m : Nat} {n : Expr} {px : Pos} (he : EV X σ H n (isd X (nd m))) (hm : m < 2 ^ 62) (Pv : Nat → L2.St → Hp → Prop) (h0 : ∀ H', Ext H H' → Pv 0 σ H')
    (hs : ∀ i σ' H', i < m → Pv i σ' H' → WB X body { D with nx := Pv (i + 1), ct := Pv (i + 1), bk := WB X rest D } (σ'.set ix (some (nv i))) H') (hd : ∀ σ' H', Pv m σ' H' → WB X rest D σ' H')
    (hmg : X.mg "range" = none) (hg : Gl X "range" := by rfl) (hp : PassesOwn (model X.prog X.w) X.A X.env X.xe := by exact PassesOwn.never) (hc : X.calm = true := by rfl) (hN : X.N.Nodup := by assumption) (hi : X.N[ix]? = some x := by rfl) (hx : Loc X.env.scope x := by first | exact Or.inl rfl | exact Or.inr rfl)
    (hf : X.fn x = true ∨ X.env.scope.names.lookup x = some .local := by first | exact .inl rfl | exact .inr rfl) (hs1 : starEach [n] X.env = [(false, eval n X.env)] := by rfl)
    (hfo : ∀ v, foldedSetIterable (.Call (.Name "range" p1) [n] [] p2) X.env v = pure v := by intro _; rfl) : WB X (.For (.Name x px) (.Call (.Name "range" p1) [n] [] p2) body [] pos :: rest) D σ H :=
  b_cons (WS.of (ps_for hp hc (pi_range1 hg hmg (pa_cons pwe pa_nil hs1) hs1) (pg_name hN hi hx hf) pwb hfo)
    (he H (Ext.refl _) _ fun v H1 e1 r => ⟨m, by rw [int_inv r], by omega, by omega, by
      rw [Int.toNat_natCast]
      exact for_range Pv (h0 H1 e1) (fun i σ' H' hi p => by
        rw [Int.zero_add]
        exact hs i σ' H' hi p) hd⟩))
/-- for x in a list that the body leaves as it is -/
theorem b_forL (ix : Nat) {l : Expr} {px : Pos} (he : EV X σ H l R)
    (h : ∀ v H1, Ext H H1 → R H v H1 → ∃ q xs, ∃ Pv : Nat → L2.St → Hp → Prop, v = .ref q ∧ SqL X.K H1 q xs ∧ TDs X.K H1 xs ds ∧ Pv 0 σ H1 ∧ (∀ i σ' H', Pv i σ' H' → SqL X.K H' q xs ∧ TDs X.K H' xs ds) ∧
      (∀ i d v σ' H', ds[i]? = some d → TD X.K H' v d → Pv i σ' H' → WB X body { D with nx := Pv (i + 1), ct := Pv (i + 1), bk := WB X rest D } (σ'.set ix (some v)) H') ∧ ∀ σ' H', Pv ds.length σ' H' → WB X rest D σ' H')
    (hp : PassesOwn (model X.prog X.w) X.A X.env X.xe := by exact PassesOwn.never) (hc : X.calm = true := by rfl) (hN : X.N.Nodup := by assumption) (hi : X.N[ix]? = some x := by rfl) (hx : Loc X.env.scope x := by first | exact Or.inl rfl | exact Or.inr rfl)
    (hf : X.fn x = true ∨ X.env.scope.names.lookup x = some .local := by first | exact .inl rfl | exact .inr rfl)
    (hfo : ∀ v, foldedSetIterable l X.env v = pure v := by intro _; rfl) : WB X (.For (.Name x px) l body [] pos :: rest) D σ H :=
  b_cons (WS.of (ps_for hp hc (pi_list pwe) (pg_name hN hi hx hf) pwb hfo)
    (he H (Ext.refl _) _ fun v H1 e1 r => by
      obtain ⟨q, xs, P, e, hq, hd, g0, g1, g2, g3⟩ := h v H1 e1 r
      refine ⟨q, e, ⟨xs, hq⟩, ?_⟩
      refine for_list (xs := xs) P g0 (fun i σ' H' _ p => (g1 i σ' H' p).1) (fun i u σ' H' hu p => ?_) (fun σ' H' p => g3 σ' H' (by rw [← hd.length]; exact p))
      obtain ⟨d, hdd, htd⟩ := (g1 i σ' H' p).2.getv hu
      exact g2 i d u σ' H' hdd htd p))
/-- while -/
theorem b_while (W : Nat → L2.St → Hp → Prop) (h0 : ∃ m, W m σ H)
    (h : ∀ m σ' H', W m σ' H' → ∃ q, ET X σ' H' c q ∧ (q = true → ∀ H2, Ext H' H2 → WB X body { D with nx := fun σ3 H3 => ∃ m', m' < m ∧ W m' σ3 H3, ct := fun σ3 H3 => ∃ m', m' < m ∧ W m' σ3 H3, bk := WB X rest D } σ' H2) ∧ (q = false → ∀ H2, Ext H' H2 → WB X rest D σ' H2))
    (hp : PassesOwn (model X.prog X.w) X.A X.env X.xe := by exact PassesOwn.never) : WB X (.While c body [] pos :: rest) D σ H :=
  b_cons (WS.of (ps_while hp pwt pwb) ⟨W, h0, fun m σ' H' hw => by
    obtain ⟨q, hc, h1, h2⟩ := h m σ' H' hw
    refine hc H' (Ext.refl _) _ fun H2 e2 => ?_
    cases q with
    | true => exact ⟨_, fun _ _ z => z, h1 rfl H2 e2⟩
    | false => exact h2 rfl H2 e2⟩)
end

/-! a def's body -/
section
variable {P : Program} {w : World} {K : PySem.W.Frag} {mg : Str → Option Value} {base : Heap} {x qual : Str} {st : Stmt} {f : Addr} {fd : FuncData} {N ps : List Str} {k : Nat}
theorem okW {sp : Sp} (F : Fun K x qual st f fd) (S : FnScope N ps (defScope st)) (len : ∀ vs H Q E, sp vs H Q E → vs.length = ps.length)
    (hbody : ∀ (cdv : Value) (A : Around) (outer : List Env) (s : Shared) (H : Hp) (vs : List V) (Q : VK) (E : XK), PySem.W.codeIn K cdv qual = true → Room k (A.deeper (envOfC qual (defScope st) s.heap.objs.size f cdv)) → sp vs H Q E →
      WB (cxOf CX0 P w K mg base N qual (defScope st) f cdv A outer s H E).nox (defBody st) { nx := fun _ H' => Q .non H', rt := Q } (start N vs) H) : FnOk P w K mg base CX0 (k + 1) f fd ps sp := by
  obtain ⟨oc, od, kV, doc, pm, an, cdv, ct, osl, rfl, lk, hcd⟩ := F.ex
  exact fn_of lk hcd S len fun A outer s H vs Q E hr hsp => ⟨_, pwb.nox, hbody cdv A outer s H vs Q E hcd hr hsp⟩
theorem okR {T : List Addr} {S' : List AD → AD → Prop} (F : Fun K x qual st f fd) (S : FnScope N ps (defScope st)) (len : ∀ as r, S' as r → as.length = ps.length)
    (hbody : ∀ (cdv : Value) (A : Around) (outer : List Env) (s : Shared) (H : Hp) (vs : List V) (Q : VK) (E : XK) (as : List AD) (r : AD), PySem.W.codeIn K cdv qual = true → Room k (A.deeper (envOfC qual (defScope st) s.heap.objs.size f cdv)) → Tabs T H → ARs K H vs as → S' as r →
      (∀ v H', Ext H H' → RR K H v H' r → Q v H') → WB (cxOf CX0 P w K mg base N qual (defScope st) f cdv A outer s H E).nox (defBody st) { nx := fun _ H' => Q .non H', rt := Q } (start N vs) H) : FnOk P w K mg base CX0 (k + 1) f fd ps (spR K T S') :=
  okW F S (fun vs H Q E h => by
    obtain ⟨_, as, r, ha, hs, _⟩ := h
    rw [ARs.length ha]
    exact len as r hs) fun cdv A outer s H vs Q E hcd hr h => by
    obtain ⟨hT, as, r, ha, hs, hq⟩ := h
    exact hbody cdv A outer s H vs Q E as r hcd hr hT ha hs hq
end
end SL

set_option maxHeartbeats 2000000
/-! comprehensions, any, all, and the rest of the operators in the same style -/
namespace SL
open PySem PySem.Spec PyProof.Rows L2 GxR GX StX

/-- the tests of a comprehension -/
def WC (X : Cx) (ifs : List Expr) : TT := fun σ H Q => ∀ (pins : List (Addr × Obj)) (s : Shared), Inv X pins σ H s →
    wpAny (model X.prog X.w) X.A (forIn ifs true fun c r => if r = true then do let ok ← isTrue c X.env (eval c X.env); pure (ForInStep.yield ok) else pure (ForInStep.yield r)) (TP X pins σ Q) X.xe s
theorem pwc {X : Cx} {ifs : List Expr} : PTs X ifs (WC X ifs) := ⟨fun pins s _ _ _ I h => h pins s I⟩
def EC (X : Cx) (σ : L2.St) (H : Hp) (ifs : List Expr) (b : Bool) : Prop := ∀ H1, Ext H H1 → ∀ Q : Bool → Hp → Prop, (∀ H2, Ext H1 H2 → Q b H2) → WC X ifs σ H1 Q
theorem c_nil {X : Cx} {σ : L2.St} {H : Hp} : EC X σ H [] true := fun H1 _ Q k pins s I => pts_nil.run pins s σ H1 Q I (k H1 (Ext.refl _))
theorem c_one {X : Cx} {σ : L2.St} {H : Hp} {c : Expr} {b : Bool} (h : ET X σ H c b) : EC X σ H [c] b := fun H1 e1 Q k pins s I => (pts_one pwt).run pins s σ H1 Q I (h H1 e1 Q k)

/-- from H on, at turn i < m it yields what y says, then it stops -/
def Ylds (J : It) (H : Hp) (m : Nat) (y : Nat → V → Hp → Prop) : Prop := ∀ H3, Ext H H3 → (∀ i, i < m → J.go i H3 ∧ ∀ v H4, J.yld i H3 v H4 → Ext H3 H4 ∧ y i v H4) ∧ J.stop m H3
abbrev bcx (X : Cx) (s : Shared) (H : Hp) (C : Addr) (cl : List (Str × Addr)) (fp : List Addr) (scope : Scope) : Cx := X.blk s H scope (compEnvC scope cl C X.env) fp

section
variable {X : Cx} {σ : L2.St} {H : Hp} {elt tg iter : Expr} {ifs : List Expr} {scope : Scope} {own : List (Str × Nat)} {pos : Pos} {wi : TI} {g : TG}
theorem filter_range_succ (i : Nat) (q : Nat → Bool) : (List.range (i + 1)).filter q = (List.range i).filter q ++ (if q i = true then [i] else []) := by
  rw [List.range_succ, List.filter_append]
  by_cases h : q i = true
  · rw [if_pos h]; simp [h]
  · rw [if_neg h]; simp [h]
theorem lc_reads {m : Nat} {y : Nat → V → Hp → Prop} {q : Nat → Bool} {gd : Nat → Dat} (hwi : ∀ H1, Ext H H1 → ∀ R : It → Hp → Prop, (∀ J H2, Ext H1 H2 → Ylds J H2 m y → R J H2) → wi σ H1 R) (hm : m ≤ sizeLine)
    (hel : ∀ i v H4, i < m → Ext H H4 → y i v H4 → ∀ K : L2.St → Hp → Prop, (∀ σ2 H5, Ext H4 H5 → wipe σ2 (own.map (·.2)) = wipe σ (own.map (·.2)) →
        (∀ s H0 C cl fp, EC (bcx X s H0 C cl fp scope) σ2 H5 ifs (q i) ∧ (q i = true → EV (bcx X s H0 C cl fp scope) σ2 H5 elt (isd X (gd i)))) → K σ2 H5) → g v (wipe σ (own.map (·.2))) H4 K) :
    ∀ H1, Ext H H1 → ∀ Q : VK, (∀ v H2, Ext H1 H2 → isn X (((List.range m).filter q).map gd) H1 v H2 → Q v H2) →
      tLc wi g (fun σ' H' Q' => ∀ s H0 C cl fp, WC (bcx X s H0 C cl fp scope) ifs σ' H' Q') (fun σ' H' Q' => ∀ s H0 C cl fp, WE (bcx X s H0 C cl fp scope) elt σ' H' Q') (own.map (·.2)) σ H1 Q := by
  intro H1 e1 Q k
  refine hwi H1 e1 _ fun J H2 e2 hy => fun L hL => ?_
  refine ⟨fun i m' H' => m' = m - i ∧ i ≤ m ∧ Ext H2 H' ∧ ∃ acc, H' L = some (.lst acc) ∧ TDs X.K H' acc (((List.range i).filter q).map gd), ⟨m, by simp, Nat.zero_le _, Ext.new hL, [], upd_same, .nil⟩, ?_⟩
  rintro i m' H' ⟨rfl, hle, e3, acc, hacc, htd⟩
  obtain ⟨hgo, hstop⟩ := hy H' e3
  by_cases hlt : i < m
  · obtain ⟨go, yl⟩ := hgo i hlt
    refine .inr ⟨go, fun H'' => Ext H2 H'' ∧ ∃ acc, H'' L = some (.lst acc) ∧ TDs X.K H'' acc (((List.range (i + 1)).filter q).map gd), fun H'' z => ⟨m - (i + 1), by omega, rfl, hlt, z⟩, fun v H4 yv => ?_⟩
    obtain ⟨e4, yv⟩ := yl v H4 yv
    refine hel i v H4 hlt (((e1.trans e2).trans e3).trans e4) yv _ fun σ2 H5 e5 hw hh => ⟨hw, fun s H0 C cl fp => (hh s H0 C cl fp).1 H5 (Ext.refl _) _ fun H6 e6 => ?_⟩
    have e56 := e5.trans e6
    cases hq : q i with
    | true =>
      show (if true = true then _ else _)
      refine iteT fun s H0 C cl fp => (hh s H0 C cl fp).2 hq H6 e6 _ fun u H7 e7 hu => ?_
      have e47 := e4.trans (e56.trans e7)
      have hl7 := e47.lst hacc
      have hlen : acc.length ≤ i := by
        rw [htd.length, List.length_map]
        exact Nat.le_trans (List.length_filter_le _ _) (by simp)
      refine ⟨acc, hl7, by omega, (e3.trans e47).mut hL, acc ++ [u], upd_same, ?_⟩
      rw [filter_range_succ, if_pos hq, List.map_append]
      exact (htd.mono (e47.tk.trans (Tk.mutL hl7))).append (.cons (hu.mono (Tk.mutL hl7)) .nil)
    | false =>
      refine iteF ⟨e3.trans (e4.trans e56), acc, (e4.trans e56).lst hacc, ?_⟩
      rw [filter_range_succ, if_neg (by rw [hq]; simp), List.append_nil]
      exact htd.mono (e4.trans e56).tk
  · have e : i = m := by omega
    subst e
    exact .inl ⟨hstop, k _ H' (e2.trans e3) ⟨L, acc, rfl, e2.free hL, hacc, htd⟩⟩
theorem v_lc {m : Nat} {y : Nat → V → Hp → Prop} {q : Nat → Bool} {gd : Nat → Dat} (hi : PI X tg iter wi) (hwi : ∀ H1, Ext H H1 → ∀ R : It → Hp → Prop, (∀ J H2, Ext H1 H2 → Ylds J H2 m y → R J H2) → wi σ H1 R)
    (hc : X.calm = true) (hN : X.N.Nodup) (ok : BlkOk X.N X.env.scope scope own) (hm : m ≤ sizeLine)
    (hg : ∀ (s : Shared) (H : Hp) (C : Addr) (cl : List (Str × Addr)) (fp : List Addr), PG (X.blk s H scope (compEnvC scope cl C X.env) fp) tg g)
    (hel : ∀ i v H4, i < m → Ext H H4 → y i v H4 → ∀ K : L2.St → Hp → Prop, (∀ σ2 H5, Ext H4 H5 → wipe σ2 (own.map (·.2)) = wipe σ (own.map (·.2)) →
        (∀ s H0 C cl fp, EC (bcx X s H0 C cl fp scope) σ2 H5 ifs (q i) ∧ (q i = true → EV (bcx X s H0 C cl fp scope) σ2 H5 elt (isd X (gd i)))) → K σ2 H5) → g v (wipe σ (own.map (·.2))) H4 K)
    (hs : ∀ x, foldedSetIterable iter X.env x = pure x := by intro _; rfl) :
    EV X σ H (.ListComp elt [⟨tg, iter, ifs, 0⟩] scope pos) (isn X (((List.range m).filter q).map gd)) :=
  EV.by (pe_lc (te := fun σ' H' Q' => ∀ s H0 C cl fp, WE (bcx X s H0 C cl fp scope) elt σ' H' Q') (tt := fun σ' H' Q' => ∀ s H0 C cl fp, WC (bcx X s H0 C cl fp scope) ifs σ' H' Q') hc hN hi ok hg
    (fun s H0 C cl fp => ⟨fun pins s' σ' H' Q I h => h s H0 C cl fp pins s' I⟩) (fun s H0 C cl fp => ⟨fun pins s' σ' H' Q I h => h s H0 C cl fp pins s' I⟩) hs) (lc_reads hwi hm hel)
/-- name = [..], the name a local -/
theorem b_setLc {m : Nat} {y : Nat → V → Hp → Prop} {q : Nat → Bool} {gd : Nat → Dat} {D : Ends} {rest : List Stmt} {j : Nat} {nm : Str} {py spos : Pos} (hi : PI X tg iter wi) (hwi : ∀ H1, Ext H H1 → ∀ R : It → Hp → Prop, (∀ J H2, Ext H1 H2 → Ylds J H2 m y → R J H2) → wi σ H1 R)
    (hc : X.calm = true) (hN : X.N.Nodup) (ok : BlkOk X.N X.env.scope scope own) (hm : m ≤ sizeLine)
    (hg : ∀ (s : Shared) (H : Hp) (C : Addr) (cl : List (Str × Addr)) (fp : List Addr), PG (X.blk s H scope (compEnvC scope cl C X.env) fp) tg g)
    (hel : ∀ i v H4, i < m → Ext H H4 → y i v H4 → ∀ K : L2.St → Hp → Prop, (∀ σ2 H5, Ext H4 H5 → wipe σ2 (own.map (·.2)) = wipe σ (own.map (·.2)) →
        (∀ s H0 C cl fp, EC (bcx X s H0 C cl fp scope) σ2 H5 ifs (q i) ∧ (q i = true → EV (bcx X s H0 C cl fp scope) σ2 H5 elt (isd X (gd i)))) → K σ2 H5) → g v (wipe σ (own.map (·.2))) H4 K)
    (k : ∀ v H', Ext H H' → isn X (((List.range m).filter q).map gd) H v H' → WB X rest D (σ.set j (some v)) H')
    (hy : X.N[j]? = some nm) (hyl : X.env.scope.names.lookup nm = some .local) (hsw : swapsWith (.ListComp elt [⟨tg, iter, ifs, 0⟩] scope pos) (some (.Name nm py)) spos.line X.env = pure true)
    (hs : ∀ x, foldedSetIterable iter X.env x = pure x := by intro _; rfl) :
    WB X (.Assign [.Name nm py] (.ListComp elt [⟨tg, iter, ifs, 0⟩] scope pos) spos :: rest) D σ H :=
  b_cons (WS.of (ps_setLc (te := fun σ' H' Q' => ∀ s H0 C cl fp, WE (bcx X s H0 C cl fp scope) elt σ' H' Q') (tt := fun σ' H' Q' => ∀ s H0 C cl fp, WC (bcx X s H0 C cl fp scope) ifs σ' H' Q') hc hN hy hyl hsw hi ok hg
    (fun s H0 C cl fp => ⟨fun pins s' σ' H' Q I h => h s H0 C cl fp pins s' I⟩) (fun s H0 C cl fp => ⟨fun pins s' σ' H' Q I h => h s H0 C cl fp pins s' I⟩) hs) (lc_reads hwi hm hel H (Ext.refl _) _ k))
end

/-! what is walked -/
section
variable {X : Cx} {σ : L2.St} {H : Hp} {e : Expr} {p pos : Pos} {ds : List Dat}
theorem y_range {m : Nat} (he : EV X σ H e (isd X (nd m))) (hm : m < 2 ^ 62) : ∀ H1, Ext H H1 → ∀ R : It → Hp → Prop, (∀ J H2, Ext H1 H2 → Ylds J H2 m (fun i v _ => v = nv i) → R J H2) → iRng1 (tCons (WE X e) tNil) σ H1 R := fun H1 e1 R k =>
  he H1 e1 _ fun v H2 e2 r => ⟨m, by rw [int_inv r], by omega, by omega, by
    rw [Int.toNat_natCast]
    refine k _ H2 e2 fun H3 e3 => ⟨fun i hi => ⟨hi, fun v H4 hy => ?_⟩, Nat.le_refl _⟩
    obtain ⟨rfl, rfl⟩ := hy
    exact ⟨Ext.refl _, by rw [Int.zero_add]; rfl⟩⟩
theorem y_list (he : EV X σ H e (isl X ds)) : ∀ H1, Ext H H1 → ∀ R : It → Hp → Prop, (∀ J H2, Ext H1 H2 → Ylds J H2 ds.length (fun i v H4 => ∀ d, ds[i]? = some d → TD X.K H4 v d) → R J H2) → iList X.K (WE X e) σ H1 R := fun H1 e1 R k =>
  he H1 e1 _ fun v H2 e2 ⟨q, xs, ev, hq, hd⟩ => ⟨q, ev, ⟨xs, hq⟩, by
    refine k _ H2 e2 fun H3 e3 => ⟨fun i hi => ?_, ⟨xs, e3.sql hq, by rw [hd.length]; exact Nat.le_refl _⟩⟩
    obtain ⟨u, hu, hud⟩ := hd.get (List.getElem?_eq_getElem hi)
    refine ⟨⟨xs, u, e3.sql hq, hu⟩, fun v H4 hy => ?_⟩
    obtain ⟨rfl, hv⟩ := hy
    refine ⟨Ext.refl _, fun d hdd => ?_⟩
    have e1 := hv xs (e3.sql hq)
    rw [hu] at e1
    rw [List.getElem?_eq_getElem hi] at hdd
    cases e1
    cases hdd
    exact hud.mono e3.tk⟩
theorem y_tup (he : EV X σ H e (isd X (.tup ds))) : ∀ H1, Ext H H1 → ∀ R : It → Hp → Prop, (∀ J H2, Ext H1 H2 → Ylds J H2 ds.length (fun i v H4 => ∀ d, ds[i]? = some d → TD X.K H4 v d) → R J H2) → iTup X.K (WE X e) σ H1 R := fun H1 e1 R k =>
  he H1 e1 _ fun v H2 e2 r => by
    obtain ⟨q, xs, ev, hq, hd⟩ := tup_inv r
    refine ⟨q, ev, ⟨xs, hq⟩, k _ H2 e2 fun H3 e3 => ⟨fun i hi => ?_, ⟨xs, e3.tk.sq hq, by rw [hd.length]; exact Nat.le_refl _⟩⟩⟩
    obtain ⟨u, hu, hud⟩ := hd.get (List.getElem?_eq_getElem hi)
    refine ⟨⟨xs, u, e3.tk.sq hq, hu⟩, fun v H4 hy => ?_⟩
    obtain ⟨rfl, hv⟩ := hy
    refine ⟨Ext.refl _, fun d hdd => ?_⟩
    have e1 := hv xs (e3.tk.sq hq)
    rw [hu] at e1
    rw [List.getElem?_eq_getElem hi] at hdd
    cases e1
    cases hdd
    exact hud.mono e3.tk
/-- enumerate of a tuple: pairs -/
theorem y_enum (he : EV X σ H e (isd X (.tup ds))) : ∀ H1, Ext H H1 → ∀ R : It → Hp → Prop, (∀ J H2, Ext H1 H2 → Ylds J H2 ds.length (fun i v H4 => ∀ d, ds[i]? = some d → TD X.K H4 v (.tup [nd i, d])) → R J H2) → iEnumT X.K (tCons (WE X e) tNil) σ H1 R := fun H1 e1 R k =>
  he H1 e1 _ fun v H2 e2 r => by
    obtain ⟨q, xs, rfl, hq, hd⟩ := tup_inv r
    refine ⟨q, xs, rfl, hq, k _ H2 e2 fun H3 e3 => ⟨fun i hi => ?_, ⟨xs, e3.tk.sq hq, hd.length⟩⟩⟩
    obtain ⟨u, hu, hud⟩ := hd.get (List.getElem?_eq_getElem hi)
    refine ⟨⟨xs, u, e3.tk.sq hq, hu⟩, fun v H4 hy => ?_⟩
    obtain ⟨T, x, rfl, hT, rfl, hv⟩ := hy
    refine ⟨Ext.new hT, fun d hdd => ?_⟩
    have e1 := hv xs (e3.tk.sq hq)
    rw [hu] at e1
    rw [List.getElem?_eq_getElem hi] at hdd
    cases e1
    cases hdd
    exact .tup (SqT.of upd_same) (.cons (.int _) (.cons (hud.mono (e3.trans (Ext.new hT)).tk) .nil))
end

section
variable {X : Cx} {σ : L2.St} {H : Hp} {elt iter c : Expr} {ifs : List Expr} {scope : Scope} {pos p p2 : Pos} {x : Str} {px : Pos} {ds : List Dat}
theorem wipe1 (σ : L2.St) (ix : Nat) (v : Option V) : wipe ((wipe σ [ix]).set ix v) [ix] = wipe σ [ix] := by
  simp [wipe, List.set_set]
/-- [elt for x in range(n) if ..] -/
theorem v_lcR (ix : Nat) {m : Nat} {q : Nat → Bool} {gd : Nat → Dat} {n : Expr} (he : EV X σ H n (isd X (nd m))) (hm : m ≤ 16777216) (hmg : X.mg "range" = none)
    (hel : ∀ i H', i < m → Ext H H' → ∀ s H0 C cl fp, EC (bcx X s H0 C cl fp scope) ((wipe σ [ix]).set ix (some (nv i))) H' ifs (q i) ∧ (q i = true → EV (bcx X s H0 C cl fp scope) ((wipe σ [ix]).set ix (some (nv i))) H' elt (isd X (gd i))))
    (ok : BlkOk X.N X.env.scope scope [(x, ix)] := by exact blkOk_by (by rfl)) (hN : X.N.Nodup := by assumption) (hc : X.calm = true := by rfl) (hg : Gl X "range" := by rfl) (hi : X.N[ix]? = some x := by rfl) (hx : scope.names.lookup x = some .local := by rfl)
     (hs1 : starEach [n] X.env = [(false, eval n X.env)] := by rfl)
    (hs : ∀ v, foldedSetIterable (.Call (.Name "range" p) [n] [] p2) X.env v = pure v := by intro _; rfl) :
    EV X σ H (.ListComp elt [⟨.Name x px, .Call (.Name "range" p) [n] [] p2, ifs, 0⟩] scope pos) (isn X (((List.range m).filter q).map gd)) :=
  v_lc (own := [(x, ix)]) (pi_range1 hg hmg (pa_cons pwe pa_nil hs1) hs1) (y_range he (by omega)) hc hN ok (by rw [sizeLine_eq]; omega) (fun s H0 C cl fp => pg_name hN hi (.inl (lookup_relabel_local hx)) (.inr (lookup_relabel_local hx)))
    (fun i v H4 hi e4 hy K k => by
      rw [hy]
      exact k _ _ (Ext.refl _) (wipe1 _ _ _) (hel i H4 hi e4)) hs
/-- y = [elt for x in range(n) if ..], y a local -/
theorem b_setLcR (j ix : Nat) {m : Nat} {q : Nat → Bool} {gd : Nat → Dat} {n : Expr} {D : Ends} {rest : List Stmt} {nm : Str} {py spos : Pos} (he : EV X σ H n (isd X (nd m))) (hm : m ≤ 16777216) (hmg : X.mg "range" = none)
    (hel : ∀ i H', i < m → Ext H H' → ∀ s H0 C cl fp, EC (bcx X s H0 C cl fp scope) ((wipe σ [ix]).set ix (some (nv i))) H' ifs (q i) ∧ (q i = true → EV (bcx X s H0 C cl fp scope) ((wipe σ [ix]).set ix (some (nv i))) H' elt (isd X (gd i))))
    (k : ∀ v H', Ext H H' → isn X (((List.range m).filter q).map gd) H v H' → WB X rest D (σ.set j (some v)) H')
    (ok : BlkOk X.N X.env.scope scope [(x, ix)] := by exact blkOk_by (by rfl)) (hN : X.N.Nodup := by assumption) (hc : X.calm = true := by rfl) (hg : Gl X "range" := by rfl) (hi : X.N[ix]? = some x := by rfl) (hx : scope.names.lookup x = some .local := by rfl)
    (hs1 : starEach [n] X.env = [(false, eval n X.env)] := by rfl) (hy : X.N[j]? = some nm := by rfl) (hyl : X.env.scope.names.lookup nm = some .local := by rfl)
    (hsw : swapsWith (.ListComp elt [⟨.Name x px, .Call (.Name "range" p) [n] [] p2, ifs, 0⟩] scope pos) (some (.Name nm py)) spos.line X.env = pure true := by rfl)
    (hs : ∀ v, foldedSetIterable (.Call (.Name "range" p) [n] [] p2) X.env v = pure v := by intro _; rfl) :
    WB X (.Assign [.Name nm py] (.ListComp elt [⟨.Name x px, .Call (.Name "range" p) [n] [] p2, ifs, 0⟩] scope pos) spos :: rest) D σ H :=
  b_setLc (own := [(x, ix)]) (pi_range1 hg hmg (pa_cons pwe pa_nil hs1) hs1) (y_range he (by omega)) hc hN ok (by rw [sizeLine_eq]; omega) (fun s H0 C cl fp => pg_name hN hi (.inl (lookup_relabel_local hx)) (.inr (lookup_relabel_local hx)))
    (fun i v H4 hi e4 hy K k => by
      rw [hy]
      exact k _ _ (Ext.refl _) (wipe1 _ _ _) (hel i H4 hi e4)) k hy hyl hsw hs
/-- [elt for x in xs if ..], xs a list -/
theorem v_lcL (ix : Nat) {q : Nat → Bool} {gd : Nat → Dat} (he : EV X σ H iter (isl X ds)) (hm : ds.length ≤ sizeLine)
    (hel : ∀ i d v H', ds[i]? = some d → TD X.K H' v d → Ext H H' → ∀ s H0 C cl fp, EC (bcx X s H0 C cl fp scope) ((wipe σ [ix]).set ix (some v)) H' ifs (q i) ∧ (q i = true → EV (bcx X s H0 C cl fp scope) ((wipe σ [ix]).set ix (some v)) H' elt (isd X (gd i))))
    (ok : BlkOk X.N X.env.scope scope [(x, ix)] := by exact blkOk_by (by rfl)) (hN : X.N.Nodup := by assumption) (hc : X.calm = true := by rfl) (hi : X.N[ix]? = some x := by rfl) (hx : scope.names.lookup x = some .local := by rfl)
    
    (hs : ∀ v, foldedSetIterable iter X.env v = pure v := by intro _; rfl) :
    EV X σ H (.ListComp elt [⟨.Name x px, iter, ifs, 0⟩] scope pos) (isn X (((List.range ds.length).filter q).map gd)) :=
  v_lc (own := [(x, ix)]) (pi_list pwe) (y_list he) hc hN ok hm (fun s H0 C cl fp => pg_name hN hi (.inl (lookup_relabel_local hx)) (.inr (lookup_relabel_local hx)))
    (fun i v H4 hi e4 hy K k => k _ _ (Ext.refl _) (wipe1 _ _ _) (hel i ds[i] v H4 (List.getElem?_eq_getElem hi) (hy _ (List.getElem?_eq_getElem hi)) e4)) hs
end
end SL

set_option maxHeartbeats 2000000
/-! any, all in the same style -/
namespace SL
open PySem PySem.Spec PyProof.Rows L2 GxR GX StX GenW

abbrev ggx (X : Cx) (A' : Around) (s : Shared) (H : Hp) (C : Addr) (code : Value) (fp : List Addr) (scope : Scope) : Cx := gcx X A' s H (genEnv scope (cloFrom X.env.cells scope.names []) C code builtinsNs X.env) fp
section
variable {X : Cx} {σ : L2.St} {H : Hp} {elt iter : Expr} {x : Str} {px p pos gpos : Pos} {scope : Scope} {wi : TI} {c P : Addr} {k ix m : Nat} {y : Nat → V → Hp → Prop} {b : Nat → Bool}
theorem gen_turns (cont : Bool) (hT : TabG H P) (hwi : ∀ H1, Ext H H1 → ∀ R : It → Hp → Prop, (∀ J H2, Ext H1 H2 → Ylds J H2 m y → R J H2) → wi σ H1 R)
    (hel : ∀ i v H', i < m → Ext H H' → y i v H' → ∀ A' s H0 C code fp, Room k A' → EV (ggx X A' s H0 C code fp scope) (σ.set ix (some v)) H' elt (isd X (.bl (b i)))) :
    ∀ H1, Ext H H1 → ∀ Q : VK, (∀ v H2, Ext H1 H2 → isd X (.bl (if ∀ i, i < m → b i = cont then cont else !cont)) H1 v H2 → Q v H2) →
      tGenA cont P wi (fun σ' H' Q' => ∀ A' s H0 C code fp, Room k A' → WE (ggx X A' s H0 C code fp scope) elt σ' H' Q') ix σ H1 Q := fun H1 e1 Q kk => by
  refine hwi H1 e1 _ fun J H2 e2 hy => ⟨(e1.trans e2).tabg hT, fun H3 h3 => ?_⟩
  have e3 : Ext H2 H3 := Ext.tab h3 ((e1.trans e2).tabg hT)
  refine ⟨fun i m' H' => m' = m - i ∧ i ≤ m ∧ Ext H3 H' ∧ ∀ j, j < i → b j = cont, ⟨m, by simp, Nat.zero_le _, Ext.refl _, fun j hj => absurd hj (Nat.not_lt_zero _)⟩, ?_⟩
  rintro i m' H' ⟨rfl, hle, e4, hb⟩
  obtain ⟨hgo, hstop⟩ := hy H' (e3.trans e4)
  by_cases hlt : i < m
  · obtain ⟨go, yl⟩ := hgo i hlt
    refine .inr ⟨go, fun H'' => Ext H3 H'' ∧ ∀ j, j < i + 1 → b j = cont, fun H'' z => ⟨m - (i + 1), by omega, rfl, hlt, z⟩, fun v H4 yv => ?_⟩
    obtain ⟨e5, yv⟩ := yl v H4 yv
    intro A' s H0 C code fp hr
    refine hel i v H4 hlt ((((e1.trans e2).trans e3).trans e4).trans e5) yv A' s H0 C code fp hr H4 (Ext.refl _) _ fun u H5 e6 hu => ⟨b i, bl_inv hu, fun hc => ⟨(e4.trans e5).trans e6, fun j hj => ?_⟩, fun hc => ?_⟩
    · by_cases z : j = i
      · rw [z]; exact hc
      · exact hb j (by omega)
    · refine kk _ H5 ((((e2.trans e3).trans e4).trans e5).trans e6) ?_
      rw [if_neg (fun z => hc (z i hlt))]
      exact .bl _
  · have e : i = m := by omega
    subst e
    refine .inl ⟨hstop, kk _ H' ((e2.trans e3).trans e4) ?_⟩
    rw [if_pos hb]
    exact .bl _
theorem all_if (m : Nat) (b : Nat → Bool) : (if ∀ i, i < m → b i = true then true else !true) = (List.range m).all b := by
  by_cases h : ∀ i, i < m → b i = true
  · rw [if_pos h, eq_comm, List.all_eq_true]
    exact fun x hx => h x (List.mem_range.mp hx)
  · rw [if_neg h, eq_comm, Bool.not_true, Bool.eq_false_iff]
    intro z
    rw [List.all_eq_true] at z
    exact h fun i hi => z i (List.mem_range.mpr hi)
theorem any_if (m : Nat) (b : Nat → Bool) : (if ∀ i, i < m → b i = false then false else !false) = (List.range m).any b := by
  by_cases h : ∀ i, i < m → b i = false
  · rw [if_pos h, eq_comm, Bool.eq_false_iff]
    intro z
    obtain ⟨i, hi, e⟩ := List.any_eq_true.mp z
    rw [h i (List.mem_range.mp hi)] at e
    cases e
  · rw [if_neg h, eq_comm, Bool.not_false, List.any_eq_true]
    have ⟨i, hi⟩ := Classical.not_forall.mp h
    have ⟨h1, h2⟩ := Classical.not_imp.mp hi
    exact ⟨i, List.mem_range.mpr h1, by simpa using h2⟩
theorem v_all (hi : PI X (.Name x px) iter wi) (hwi : ∀ H1, Ext H H1 → ∀ R : It → Hp → Prop, (∀ J H2, Ext H1 H2 → Ylds J H2 m y → R J H2) → wi σ H1 R)
    (hr : Room (k + 1) X.A) (hm : X.mg "all" = none) (hb : bootBuiltins "all" = some (.builtin "all")) (TB : TabB X.base X.mg c P) (hcode : X.env.code = .ref c) (hT : TabG H P) (S : GenS X.env scope x)
    (hel : ∀ i v H', i < m → Ext H H' → y i v H' → ∀ A' s H0 C code fp, Room k A' → EV (ggx X A' s H0 C code fp scope) (σ.set ix (some v)) H' elt (isd X (.bl (b i))))
    (hg : Gl X "all" := by rfl) (hcalm : X.calm = true := by rfl) (ok : BlkOk X.N X.env.scope scope [(x, ix)] := by exact blkOk_by (by rfl)) (hN : X.N.Nodup := by assumption)
    (hs : ∀ v, genFold iter X.env v = pure v := by intro _; rfl)
    (he : starEach [.GeneratorExp elt [⟨.Name x px, iter, [], 0⟩] scope gpos] X.env = (false, eval (.GeneratorExp elt [⟨.Name x px, iter, [], 0⟩] scope gpos) X.env) :: starEach [] X.env := by rfl) :
    EV X σ H (.Call (.Name "all" p) [.GeneratorExp elt [⟨.Name x px, iter, [], 0⟩] scope gpos] [] pos) (isd X (.bl ((List.range m).all b))) :=
  EV.by (pe_allX (te := fun σ' H' Q' => ∀ A' s H0 C code fp, Room k A' → WE (ggx X A' s H0 C code fp scope) elt σ' H' Q') hr hg hm hb TB hcode hcalm S ok hN hi (fun A' s H0 C code fp hr' => ⟨fun pins s' σ' H' Q I h => h A' s H0 C code fp hr' pins s' I⟩) hs he)
    (by
      have h := gen_turns true hT hwi hel
      rw [all_if] at h
      exact h)
theorem v_any (hi : PI X (.Name x px) iter wi) (hwi : ∀ H1, Ext H H1 → ∀ R : It → Hp → Prop, (∀ J H2, Ext H1 H2 → Ylds J H2 m y → R J H2) → wi σ H1 R)
    (hr : Room (k + 1) X.A) (hm : X.mg "any" = none) (TB : TabB X.base X.mg c P) (hcode : X.env.code = .ref c) (hT : TabG H P) (S : GenS X.env scope x)
    (hel : ∀ i v H', i < m → Ext H H' → y i v H' → ∀ A' s H0 C code fp, Room k A' → EV (ggx X A' s H0 C code fp scope) (σ.set ix (some v)) H' elt (isd X (.bl (b i))))
    (hg : Gl X "any" := by rfl) (hcalm : X.calm = true := by rfl) (ok : BlkOk X.N X.env.scope scope [(x, ix)] := by exact blkOk_by (by rfl)) (hN : X.N.Nodup := by assumption)
    (hs : ∀ v, genFold iter X.env v = pure v := by intro _; rfl)
    (he : starEach [.GeneratorExp elt [⟨.Name x px, iter, [], 0⟩] scope gpos] X.env = (false, eval (.GeneratorExp elt [⟨.Name x px, iter, [], 0⟩] scope gpos) X.env) :: starEach [] X.env := by rfl) :
    EV X σ H (.Call (.Name "any" p) [.GeneratorExp elt [⟨.Name x px, iter, [], 0⟩] scope gpos] [] pos) (isd X (.bl ((List.range m).any b))) :=
  EV.by (pe_anyX (te := fun σ' H' Q' => ∀ A' s H0 C code fp, Room k A' → WE (ggx X A' s H0 C code fp scope) elt σ' H' Q') hr hg hm TB hcode hcalm S ok hN hi (fun A' s H0 C code fp hr' => ⟨fun pins s' σ' H' Q I h => h A' s H0 C code fp hr' pins s' I⟩) hs he)
    (by
      have h := gen_turns false hT hwi hel
      rw [any_if] at h
      exact h)
end

/-! the rest of the operators -/
section
variable {X : Cx} {σ : L2.St} {H : Hp} {a b c : Expr} {pos p : Pos} {d d1 d2 : Dat} {i j k : Int} {ds es : List Dat}
/-- a <= b <= c -/
theorem v_lele (ha : EV X σ H a (isd X (.int i))) (hb : EV X σ H b (isd X (.int j))) (hc : EV X σ H c (isd X (.int k))) (hm : lastMarks [.LtE, .LtE] [b, c] = false := by with_unfolding_all rfl) :
    EV X σ H (.Compare a [.LtE, .LtE] [b, c] pos) (isd X (.bl (decide (i ≤ j) && decide (j ≤ k)))) :=
  EV.by (pe_chain op_le op_le pwe pwe pwe hm) fun H1 e1 Q kk => ha H1 e1 _ fun x H2 e2 r1 => hb H2 (e1.trans e2) _ fun y H3 e3 r2 => ⟨i, j, int_inv r1, int_inv r2, decide (i ≤ j), rfl, by
    by_cases h : i ≤ j
    · rw [decide_eq_true h, Bool.true_and] at kk
      rw [decide_eq_true h]
      refine iteT (hc H3 ((e1.trans e2).trans e3) _ fun z H4 e4 r3 => ⟨j, k, int_inv r2, int_inv r3, ?_⟩)
      exact kk _ H4 ((e2.trans e3).trans e4) (.bl _)
    · rw [decide_eq_false h, Bool.false_and] at kk
      rw [decide_eq_false h]
      exact iteF (kk _ H3 (e2.trans e3) (.bl _))⟩
theorem inV_ints (n : Nat) (l : List Nat) : inV (nv n) (l.map nv) = l.contains n := by
  induction l with
  | nil => rfl
  | cons m l ih =>
    have e : eqV (nv m) (nv n) = (n == m) := by
      by_cases h : n = m
      · subst h
        simp [eqV, nv]
      · have h2 : ¬ ((m : Int) = (n : Int)) := fun z => h (Int.ofNat.inj z).symm
        rw [beq_eq_false_iff_ne.mpr h]
        simp [eqV, nv, h2]
    simp only [inV, List.map_cons, List.any_cons, List.contains_cons] at ih ⊢
    rw [ih, e]
theorem all_flat (l : List Nat) : (l.map nv).all flatV = true := by
  rw [List.all_eq_true]
  intro x hx
  obtain ⟨n, _, rfl⟩ := List.mem_map.mp hx
  rfl
/-- n in xs, xs a list of numbers -/
theorem t_in {n : Nat} {l : List Nat} (ha : EV X σ H a (isd X (nd n))) (hb : EV X σ H b (isl X (l.map nd))) (hm : behindInMarks .In b = false := by with_unfolding_all rfl) : ET X σ H (.Compare a [.In] [b] pos) (l.contains n) :=
  et_cmp op_in_seq ha hb (fun _ H1 H2 x y _ _ e2 r1 ⟨q, xs, e, hq, hd⟩ Q k => by
    rw [tds_int_inv hd] at hq
    refine ⟨q, l.map nv, e, .inl hq, by rw [int_inv r1]; rfl, all_flat l, ?_⟩
    rw [int_inv r1, if_neg Bool.false_ne_true]
    exact (inV_ints n l).symm ▸ k) hm
theorem t_notIn {n : Nat} {l : List Nat} (ha : EV X σ H a (isd X (nd n))) (hb : EV X σ H b (isl X (l.map nd))) (hm : behindInMarks .NotIn b = false := by with_unfolding_all rfl) : ET X σ H (.Compare a [.NotIn] [b] pos) (!l.contains n) :=
  et_cmp op_notIn_seq ha hb (fun _ H1 H2 x y _ _ e2 r1 ⟨q, xs, e, hq, hd⟩ Q k => by
    rw [tds_int_inv hd] at hq
    refine ⟨q, l.map nv, e, .inl hq, by rw [int_inv r1]; rfl, all_flat l, ?_⟩
    rw [int_inv r1, if_pos rfl]
    exact (inV_ints n l).symm ▸ k) hm
/-- a list whose objects are in hand -/
def ish (X : Cx) (ds : List Dat) : RV2 := fun _ v H => ∃ p xs, v = .ref p ∧ H p = some (.lst xs) ∧ TDs X.K H xs ds
theorem EV.hd (h : EV X σ H a (isn X ds)) : EV X σ H a (ish X ds) := h.imp fun _ _ _ _ _ ⟨p, xs, e, _, h1, h2⟩ => ⟨p, xs, e, h1, h2⟩
theorem EV.hr (h : EV X σ H a (ish X ds)) : EV X σ H a (isl X ds) := h.imp fun _ _ _ _ _ ⟨p, xs, e, h1, h2⟩ => ⟨p, xs, e, SqL.of h1, h2⟩
theorem v_h (i : Nat) {x : Str} {q : Addr} {xs : List V} (hσ : σ[i]? = some (some (.ref q))) (hl : H q = some (.lst xs)) (hd : TDs X.K H xs ds) (hN : X.N[i]? = some x := by rfl) (hv : Vis X.env.scope x := by first | exact Or.inl rfl | exact Or.inr (Or.inl rfl) | exact Or.inr (Or.inr rfl)) (h1 : (x == ("__debug__" : Str)) = false := by decide)
    (h2 : (x == ("__classdict__" : Str)) = false := by decide) : EV X σ H (.Name x pos) (ish X ds) :=
  EV.by (pe_var hN hv h1 h2) fun H1 x Q k => ⟨.ref q, hσ, k _ H1 (Ext.refl _) ⟨q, xs, rfl, x.lst hl, hd.mono x.tk⟩⟩
/-- xs + ys, lists -/
theorem v_cat (ha : EV X σ H a (ish X ds)) (hb : EV X σ H b (ish X es)) (hl : ds.length + es.length ≤ sizeLine) : EV X σ H (.BinOp a .Add b pos) (isn X (ds ++ es)) :=
  EV.by (pe_op op_cat pwe pwe) fun H1 e1 Q k => ha H1 e1 _ fun x H2 e2 ⟨q, xs, ex, hq, hd⟩ => hb H2 (e1.trans e2) _ fun y H3 e3 ⟨r, ys, ey, hr, he⟩ =>
    ⟨q, r, xs, ys, ex, ey, e3.lst hq, hr, by rw [hd.length, he.length]; exact hl, fun p hp => k _ _ ((e2.trans e3).trans (Ext.new hp)) ⟨p, _, rfl, (e2.trans e3).free hp, upd_same, ((hd.mono e3.tk).append he).mono (Ext.new hp).tk⟩⟩
/-- ts + us, tuples -/
theorem v_catT (ha : EV X σ H a (isd X (.tup ds))) (hb : EV X σ H b (isd X (.tup es))) (hl : ds.length + es.length ≤ sizeLine) : EV X σ H (.BinOp a .Add b pos) (isd X (.tup (ds ++ es))) :=
  EV.by (pe_op op_catA pwe pwe) fun H1 e1 Q k => ha H1 e1 _ fun x H2 e2 r1 => hb H2 (e1.trans e2) _ fun y H3 e3 r2 => by
    obtain ⟨q, xs, rfl, hq, hd⟩ := tup_inv r1
    obtain ⟨r, ys, rfl, hr, he⟩ := tup_inv r2
    refine ⟨q, r, xs, ys, rfl, rfl, e3.tk.sq hq, hr, by rw [hd.length, he.length]; exact hl, fun z => ?_, fun _ z => ?_, fun _ _ p hp => ?_⟩
    · subst z
      have hz : ds = [] := by
        have := hd.length
        exact List.length_eq_zero_iff.mp (by simpa using this.symm)
      refine k _ H3 (e2.trans e3) ?_
      rw [hz]
      exact .tup hr he
    · subst z
      have hz : es = [] := by
        have := he.length
        exact List.length_eq_zero_iff.mp (by simpa using this.symm)
      refine k _ H3 (e2.trans e3) ?_
      rw [hz, List.append_nil]
      exact .tup (e3.tk.sq hq) (hd.mono e3.tk)
    · exact k _ _ ((e2.trans e3).trans (Ext.new hp)) (.tup (SqT.of upd_same) (((hd.mono e3.tk).append he).mono (Ext.new hp).tk))
end
end SL

set_option maxHeartbeats 2000000
/-! the text by places -/
namespace SL
open PySem PySem.Spec PyProof.Rows L2
def topS (i : Nat) : Stmt := PySem.Challenge.pw_starlands_k06_whole_turns.main.body.getD i (.Pass ⟨0, 0, 0, 0⟩)
abbrev t_is_in : Stmt := topS 7
abbrev n_is_in : List Str := ["value", "least", "most"]
abbrev p_is_in : List Str := ["value", "least", "most"]
theorem sc_is_in : FnScope n_is_in p_is_in (defScope t_is_in) := ⟨rfl, rfl, rfl, by decide +kernel, rfl, by decide +kernel, by decide +kernel⟩
abbrev t_near : Stmt := topS 8
abbrev n_near : List Str := ["arms", "length", "cell", "step", "found", "arm"]
abbrev p_near : List Str := ["arms", "length", "cell"]
theorem sc_near : FnScope n_near p_near (defScope t_near) := ⟨rfl, rfl, rfl, by decide +kernel, rfl, by decide +kernel, by decide +kernel⟩
abbrev t_length_of : Stmt := topS 9
abbrev n_length_of : List Str := ["chart"]
abbrev p_length_of : List Str := ["chart"]
theorem sc_length_of : FnScope n_length_of p_length_of (defScope t_length_of) := ⟨rfl, rfl, rfl, by decide +kernel, rfl, by decide +kernel, by decide +kernel⟩
abbrev t_hangs : Stmt := topS 10
abbrev n_hangs : List Str := ["arms", "cells", "some", "length", "found", "rows", "more", "cell", "other"]
abbrev p_hangs : List Str := ["arms", "cells", "some"]
theorem sc_hangs : FnScope n_hangs p_hangs (defScope t_hangs) := ⟨rfl, rfl, rfl, by decide +kernel, rfl, by decide +kernel, by decide +kernel⟩
abbrev t_held : Stmt := topS 11
abbrev n_held : List Str := ["cells", "land", "cell", "one"]
abbrev p_held : List Str := ["cells", "land"]
theorem sc_held : FnScope n_held p_held (defScope t_held) := ⟨rfl, rfl, rfl, by decide +kernel, rfl, by decide +kernel, by decide +kernel⟩
abbrev t_are_cells : Stmt := topS 12
abbrev n_are_cells : List Str := ["arms", "cells", "length", "lands", "one", "land"]
abbrev p_are_cells : List Str := ["arms", "cells"]
theorem sc_are_cells : FnScope n_are_cells p_are_cells (defScope t_are_cells) := ⟨rfl, rfl, rfl, by decide +kernel, rfl, by decide +kernel, by decide +kernel⟩
abbrev t_is_map : Stmt := topS 13
abbrev n_is_map : List Str := ["value"]
abbrev p_is_map : List Str := ["value"]
theorem sc_is_map : FnScope n_is_map p_is_map (defScope t_is_map) := ⟨rfl, rfl, rfl, by decide +kernel, rfl, by decide +kernel, by decide +kernel⟩
abbrev t_need_map : Stmt := topS 14
abbrev n_need_map : List Str := ["chart"]
abbrev p_need_map : List Str := ["chart"]
theorem sc_need_map : FnScope n_need_map p_need_map (defScope t_need_map) := ⟨rfl, rfl, rfl, by decide +kernel, rfl, by decide +kernel, by decide +kernel⟩
abbrev t_lands_of : Stmt := topS 15
abbrev n_lands_of : List Str := ["chart"]
abbrev p_lands_of : List Str := ["chart"]
theorem sc_lands_of : FnScope n_lands_of p_lands_of (defScope t_lands_of) := ⟨rfl, rfl, rfl, by decide +kernel, rfl, by decide +kernel, by decide +kernel⟩
abbrev t_outward : Stmt := topS 16
abbrev n_outward : List Str := ["chart", "arm", "length"]
abbrev p_outward : List Str := ["chart", "arm"]
theorem sc_outward : FnScope n_outward p_outward (defScope t_outward) := ⟨rfl, rfl, rfl, by decide +kernel, rfl, by decide +kernel, by decide +kernel⟩
abbrev t_order_on : Stmt := topS 18
abbrev n_order_on : List Str := ["chart", "arm", "found", "land"]
abbrev p_order_on : List Str := ["chart", "arm"]
theorem sc_order_on : FnScope n_order_on p_order_on (defScope t_order_on) := ⟨rfl, rfl, rfl, by decide +kernel, rfl, by decide +kernel, by decide +kernel⟩
abbrev t_all_orders : Stmt := topS 19
abbrev n_all_orders : List Str := ["chart", "arm"]
abbrev p_all_orders : List Str := ["chart"]
theorem sc_all_orders : FnScope n_all_orders p_all_orders (defScope t_all_orders) := ⟨rfl, rfl, rfl, by decide +kernel, rfl, by decide +kernel, by decide +kernel⟩
abbrev t_is_made : Stmt := topS 21
abbrev n_is_made : List Str := ["chart", "taking", "other", "land", "cell", "one"]
abbrev p_is_made : List Str := ["chart", "taking"]
theorem sc_is_made : FnScope n_is_made p_is_made (defScope t_is_made) := ⟨rfl, rfl, rfl, by decide +kernel, rfl, by decide +kernel, by decide +kernel⟩
abbrev t_all_takings : Stmt := topS 22
abbrev n_all_takings : List Str := ["chart", "found", "land", "cell"]
abbrev p_all_takings : List Str := ["chart"]
theorem sc_all_takings : FnScope n_all_takings p_all_takings (defScope t_all_takings) := ⟨rfl, rfl, rfl, by decide +kernel, rfl, by decide +kernel, by decide +kernel⟩
abbrev t_taken : Stmt := topS 23
abbrev n_taken : List Str := ["chart", "taking", "land", "cell"]
abbrev p_taken : List Str := ["chart", "taking"]
theorem sc_taken : FnScope n_taken p_taken (defScope t_taken) := ⟨rfl, rfl, rfl, by decide +kernel, rfl, by decide +kernel, by decide +kernel⟩
abbrev t_bare_of : Stmt := topS 25
abbrev n_bare_of : List Str := ["chart", "hub", "arm", "land"]
abbrev p_bare_of : List Str := ["chart"]
theorem sc_bare_of : FnScope n_bare_of p_bare_of (defScope t_bare_of) := ⟨rfl, rfl, rfl, by decide +kernel, rfl, by decide +kernel, by decide +kernel⟩
abbrev t_freezes : Stmt := topS 26
abbrev n_freezes : List Str := ["chart"]
abbrev p_freezes : List Str := ["chart"]
theorem sc_freezes : FnScope n_freezes p_freezes (defScope t_freezes) := ⟨rfl, rfl, rfl, by decide +kernel, rfl, by decide +kernel, by decide +kernel⟩
abbrev t_tips : Stmt := topS 27
abbrev n_tips : List Str := ["chart", "arm"]
abbrev p_tips : List Str := ["chart"]
theorem sc_tips : FnScope n_tips p_tips (defScope t_tips) := ⟨rfl, rfl, rfl, by decide +kernel, rfl, by decide +kernel, by decide +kernel⟩
abbrev t_key_of : Stmt := topS 29
abbrev n_key_of : List Str := ["chart", "start"]
abbrev p_key_of : List Str := ["chart"]
theorem sc_key_of : FnScope n_key_of p_key_of (defScope t_key_of) := ⟨rfl, rfl, rfl, by decide +kernel, rfl, by decide +kernel, by decide +kernel⟩
abbrev t_need_two : Stmt := topS 31
abbrev n_need_two : List Str := ["one", "other"]
abbrev p_need_two : List Str := ["one", "other"]
theorem sc_need_two : FnScope n_need_two p_need_two (defScope t_need_two) := ⟨rfl, rfl, rfl, by decide +kernel, rfl, by decide +kernel, by decide +kernel⟩
abbrev t_turns_from : Stmt := topS 33
abbrev n_turns_from : List Str := ["chart", "found", "is_better", "more", "here", "taking", "turns", "steps", "there", "part"]
abbrev p_turns_from : List Str := ["chart"]
theorem sc_turns_from : FnScope n_turns_from p_turns_from (defScope t_turns_from) := ⟨rfl, rfl, rfl, by decide +kernel, rfl, by decide +kernel, by decide +kernel⟩
abbrev t_fewest_turns : Stmt := topS 34
abbrev n_fewest_turns : List Str := ["one", "other"]
abbrev p_fewest_turns : List Str := ["one", "other"]
theorem sc_fewest_turns : FnScope n_fewest_turns p_fewest_turns (defScope t_fewest_turns) := ⟨rfl, rfl, rfl, by decide +kernel, rfl, by decide +kernel, by decide +kernel⟩
abbrev t_turn_row : Stmt := topS 35
abbrev n_turn_row : List Str := ["one", "other"]
abbrev p_turn_row : List Str := ["one", "other"]
theorem sc_turn_row : FnScope n_turn_row p_turn_row (defScope t_turn_row) := ⟨rfl, rfl, rfl, by decide +kernel, rfl, by decide +kernel, by decide +kernel⟩
abbrev t_turn_counts : Stmt := topS 36
abbrev n_turn_counts : List Str := ["chart", "some", "turns", "steps", "many"]
abbrev p_turn_counts : List Str := ["chart"]
theorem sc_turn_counts : FnScope n_turn_counts p_turn_counts (defScope t_turn_counts) := ⟨rfl, rfl, rfl, by decide +kernel, rfl, by decide +kernel, by decide +kernel⟩
abbrev t_law_taken : Stmt := topS 38
abbrev n_law_taken : List Str := ["_law_row", "_law_many", "_law_cell", "_law_found"]
abbrev p_law_taken : List Str := ["_law_row", "_law_many"]
theorem sc_law_taken : FnScope n_law_taken p_law_taken (defScope t_law_taken) := ⟨rfl, rfl, rfl, by decide +kernel, rfl, by decide +kernel, by decide +kernel⟩
abbrev t_law_pick : Stmt := topS 39
abbrev n_law_pick : List Str := ["_law_row", "_law_things"]
abbrev p_law_pick : List Str := ["_law_row", "_law_things"]
theorem sc_law_pick : FnScope n_law_pick p_law_pick (defScope t_law_pick) := ⟨rfl, rfl, rfl, by decide +kernel, rfl, by decide +kernel, by decide +kernel⟩
abbrev t_law_alike : Stmt := topS 40
abbrev n_law_alike : List Str := ["_law_found", "_law_due", "_law_k"]
abbrev p_law_alike : List Str := ["_law_found", "_law_due"]
theorem sc_law_alike : FnScope n_law_alike p_law_alike (defScope t_law_alike) := ⟨rfl, rfl, rfl, by decide +kernel, rfl, by decide +kernel, by decide +kernel⟩
abbrev t_law_near : Stmt := topS 41
abbrev n_law_near : List Str := ["_law_arms", "_law_length", "_law_cell", "_law_found", "_law_arm", "_law_step", "_law_here", "_law_inner"]
abbrev p_law_near : List Str := ["_law_arms", "_law_length", "_law_cell"]
theorem sc_law_near : FnScope n_law_near p_law_near (defScope t_law_near) := ⟨rfl, rfl, rfl, by decide +kernel, rfl, by decide +kernel, by decide +kernel⟩
abbrev t_law_hangs : Stmt := topS 42
abbrev n_law_hangs : List Str := ["_law_arms", "_law_length", "_law_some", "_law_seen", "_law_walk_here", "_law_more", "_law_cell", "_law_one"]
abbrev p_law_hangs : List Str := ["_law_arms", "_law_length", "_law_some"]
theorem sc_law_hangs : FnScope n_law_hangs p_law_hangs (defScope t_law_hangs) := ⟨rfl, rfl, rfl, by decide +kernel, rfl, by decide +kernel, by decide +kernel⟩
abbrev t_law_map : Stmt := topS 43
abbrev n_law_map : List Str := ["_law_row", "_law_arms", "_law_length", "_law_lands", "_law_arm", "_law_turn", "_law_left", "_law_cuts", "_law_one", "_law_names", "_law_order", "_law_cells", "_law_used", "_law_land", "_law_step", "_law_pair", "_law_k"]
abbrev p_law_map : List Str := ["_law_row", "_law_arms", "_law_length", "_law_lands"]
theorem sc_law_map : FnScope n_law_map p_law_map (defScope t_law_map) := ⟨rfl, rfl, rfl, by decide +kernel, rfl, by decide +kernel, by decide +kernel⟩
abbrev t_law_takings : Stmt := topS 44
abbrev n_law_takings : List Str := ["_law_chart", "_law_land", "_law_arms", "_law_cells", "_law_length", "_law_found", "_law_cell", "_law_other", "_law_rest", "_law_one"]
abbrev p_law_takings : List Str := ["_law_chart"]
theorem sc_law_takings : FnScope n_law_takings p_law_takings (defScope t_law_takings) := ⟨rfl, rfl, rfl, by decide +kernel, rfl, by decide +kernel, by decide +kernel⟩
abbrev t_law_behind : Stmt := topS 45
abbrev n_law_behind : List Str := ["_law_chart", "_law_taking", "_law_land", "_law_cell"]
abbrev p_law_behind : List Str := ["_law_chart", "_law_taking"]
theorem sc_law_behind : FnScope n_law_behind p_law_behind (defScope t_law_behind) := ⟨rfl, rfl, rfl, by decide +kernel, rfl, by decide +kernel, by decide +kernel⟩
abbrev t_law_from : Stmt := topS 46
abbrev n_law_from : List Str := ["_law_chart", "_law_found", "_law_walk_here", "_law_more", "_law_here", "_law_taking", "_law_there"]
abbrev p_law_from : List Str := ["_law_chart"]
theorem sc_law_from : FnScope n_law_from p_law_from (defScope t_law_from) := ⟨rfl, rfl, rfl, by decide +kernel, rfl, by decide +kernel, by decide +kernel⟩
abbrev t_law_walk : Stmt := topS 47
abbrev n_law_walk : List Str := ["_law_row", "_law_chart", "_law_many", "_law_steps", "_law_turn", "_law_some"]
abbrev p_law_walk : List Str := ["_law_row", "_law_chart", "_law_many"]
theorem sc_law_walk : FnScope n_law_walk p_law_walk (defScope t_law_walk) := ⟨rfl, rfl, rfl, by decide +kernel, rfl, by decide +kernel, by decide +kernel⟩
abbrev t_law_island : Stmt := topS 48
abbrev n_law_island : List Str := ["_law_row", "_law_most", "_law_length"]
abbrev p_law_island : List Str := ["_law_row", "_law_most"]
theorem sc_law_island : FnScope n_law_island p_law_island (defScope t_law_island) := ⟨rfl, rfl, rfl, by decide +kernel, rfl, by decide +kernel, by decide +kernel⟩
abbrev t_law : Stmt := topS 49
abbrev n_law : List Str := ["_law_script", "_law_row", "_law_chart", "_law_other", "_law_every", "_law_due", "_law_some", "_law_arms", "_law_length", "_law_lands", "_law_found", "_law_is_less", "_law_here", "_law_one", "_law_k", "_law_there", "_law_part"]
abbrev p_law : List Str := ["_law_script"]
theorem sc_law : FnScope n_law p_law (defScope t_law) := ⟨rfl, rfl, rfl, by decide +kernel, rfl, by decide +kernel, by decide +kernel⟩
end SL

/-! plain: cells, what is next to what, what hangs together -/
namespace SL
def nearF (A L c : Nat) : List Nat := if c = 0 then (List.range A).map (fun a => 1 + a * L) else (if (c - 1) % L = 0 then 0 else c - 1) :: (if (c - 1) % L + 1 < L then [c + 1] else [])
/-- the next cell towards the hub -/
def innF (L c : Nat) : Nat := if (c - 1) % L = 0 then 0 else c - 1
def rootS (L : Nat) (S : List Nat) (c : Nat) : Bool := c == 0 || !S.contains (innF L c)
/-- cells that hang together: one only has no next in them -/
def hangF (L : Nat) (S : List Nat) : Bool := (S.filter (rootS L S)).length == 1
def heldF (cs : List Nat) (x : Nat) : List Nat := (List.range cs.length).filter (fun c => cs.getD c 0 == x)

theorem inn_lt {L c : Nat} (h : c ≠ 0) : innF L c < c := by
  unfold innF
  split <;> omega
theorem mem_near {A L x y : Nat} (hL : 0 < L) (hx : x < 1 + A * L) (hy : y < 1 + A * L) : y ∈ nearF A L x ↔ (x ≠ 0 ∧ y = innF L x) ∨ (y ≠ 0 ∧ x = innF L y) := by
  unfold nearF
  by_cases h0 : x = 0
  · subst h0
    rw [if_pos rfl]
    constructor
    · intro h
      obtain ⟨a, ha, rfl⟩ := List.mem_map.mp h
      refine .inr ⟨by omega, ?_⟩
      unfold innF
      rw [if_pos]
      rw [Nat.add_sub_cancel_left]
      exact Nat.mul_mod_left a L
    · rintro (⟨h, _⟩ | ⟨h, e⟩)
      · exact absurd rfl h
      · unfold innF at e
        by_cases hm : (y - 1) % L = 0
        · refine List.mem_map.mpr ⟨(y - 1) / L, List.mem_range.mpr ?_, ?_⟩
          · rw [Nat.div_lt_iff_lt_mul hL]
            omega
          · have := Nat.div_add_mod (y - 1) L
            rw [hm, Nat.mul_comm] at this
            omega
        · rw [if_neg hm] at e
          have : y = 1 := by omega
          subst this
          simp at hm
  · rw [if_neg h0]
    have key : (x - 1) % L + 1 < L ↔ x % L ≠ 0 := by
      have h1 : x = (x - 1) + 1 := by omega
      have hlt := Nat.mod_lt (x - 1) hL
      constructor
      · intro h z
        have : x % L = (x - 1) % L + 1 := by
          conv => lhs; rw [h1, Nat.add_mod]
          by_cases hL1 : L = 1
          · omega
          · rw [Nat.mod_eq_of_lt (show 1 < L by omega), Nat.mod_eq_of_lt h]
        omega
      · intro h
        rcases Nat.lt_or_ge ((x - 1) % L + 1) L with h2 | h2
        · exact h2
        · exfalso
          have h3 : (x - 1) % L + 1 = L := by omega
          apply h
          have h4 := Nat.div_add_mod (x - 1) L
          have h5 : x = L * ((x - 1) / L + 1) := by
            rw [Nat.mul_add]
            omega
          rw [h5]
          exact Nat.mul_mod_right L _
    rw [List.mem_cons]
    constructor
    · rintro (e | h)
      · exact .inl ⟨h0, e⟩
      · by_cases hc : (x - 1) % L + 1 < L
        · rw [if_pos hc] at h
          have e : y = x + 1 := by simpa using h
          refine .inr ⟨by omega, ?_⟩
          unfold innF
          rw [e, Nat.add_sub_cancel, if_neg (key.mp hc)]
        · rw [if_neg hc] at h
          simp at h
    · rintro (⟨_, e⟩ | ⟨h, e⟩)
      · exact .inl e
      · right
        unfold innF at e
        by_cases hm : (y - 1) % L = 0
        · rw [if_pos hm] at e
          exact absurd e h0
        · rw [if_neg hm] at e
          rw [if_pos (key.mpr (by rw [e]; exact hm))]
          have : y = x + 1 := by omega
          simp [this]

theorem near_lt {A L c y : Nat} (hL : 0 < L) (hc : c < 1 + A * L) (hm : y ∈ nearF A L c) : y < 1 + A * L := by
  unfold nearF at hm
  by_cases h0 : c = 0
  · rw [if_pos h0] at hm
    obtain ⟨j, hj, rfl⟩ := List.mem_map.mp hm
    have hj := List.mem_range.mp hj
    have : (j + 1) * L ≤ A * L := Nat.mul_le_mul_right L hj
    rw [Nat.add_mul] at this
    omega
  · rw [if_neg h0] at hm
    rcases List.mem_cons.mp hm with hm | hm
    · rw [hm]; split <;> omega
    · by_cases hq : (c - 1) % L + 1 < L
      · rw [if_pos hq] at hm
        have hm : y = c + 1 := by simpa using hm
        have h1 := Nat.div_add_mod (c - 1) L
        have h2 : (c - 1) / L < A := by
          rw [Nat.div_lt_iff_lt_mul (by omega)]
          omega
        have h3 : L * ((c - 1) / L + 1) ≤ L * A := Nat.mul_le_mul_left L h2
        rw [Nat.mul_add, Nat.mul_comm L A] at h3
        omega
      · rw [if_neg hq] at hm
        cases hm
/-- what a search knows: F is found, E still to be asked -/
structure BM (A L : Nat) (S F : List Nat) (E : Nat → Prop) : Prop where
  nd : F.Nodup
  sub : ∀ x, x ∈ F → x ∈ S
  hd : ∀ s, S.head? = some s → s ∈ F
  cn : ∀ G : Nat → Prop, (∀ s, S.head? = some s → G s) → (∀ x y, x ∈ S → G x → y ∈ nearF A L x → y ∈ S → G y) → ∀ x, x ∈ F → G x
  cl : ∀ x, x ∈ F → ¬ E x → ∀ y, y ∈ nearF A L x → y ∈ S → y ∈ F
theorem BM.start {A L s : Nat} {S : List Nat} (h : S.head? = some s) : BM A L S [s] (fun x => x = s) where
  nd := by simp
  sub := fun x hx => by
    rw [List.mem_singleton.mp hx]
    exact List.mem_of_mem_head? h
  hd := fun t ht => by
    rw [h] at ht
    cases ht
    simp
  cn := fun G h1 _ x hx => by
    rw [List.mem_singleton.mp hx]
    exact h1 s h
  cl := fun x hx hn => absurd (List.mem_singleton.mp hx) hn
theorem BM.add {A L x y : Nat} {S F : List Nat} {E E' : Nat → Prop} (b : BM A L S F E) (hx : x ∈ F) (hy : y ∈ nearF A L x) (hyS : y ∈ S) (hyF : y ∉ F) (h1 : ∀ z, E z → E' z) (h2 : E' y) : BM A L S (F ++ [y]) E' where
  nd := by
    rw [List.nodup_append]
    refine ⟨b.nd, by simp, fun a ha c hc e => ?_⟩
    rw [List.mem_singleton.mp hc] at e
    rw [e] at ha
    exact hyF ha
  sub := fun z hz => by
    rcases List.mem_append.mp hz with h | h
    · exact b.sub z h
    · rw [List.mem_singleton.mp h]; exact hyS
  hd := fun s hs => List.mem_append_left _ (b.hd s hs)
  cn := fun G g1 g2 z hz => by
    rcases List.mem_append.mp hz with h | h
    · exact b.cn G g1 g2 z h
    · rw [List.mem_singleton.mp h]
      exact g2 x y (b.sub x hx) (b.cn G g1 g2 x hx) hy hyS
  cl := fun z hz hn t ht htS => by
    rcases List.mem_append.mp hz with h | h
    · exact List.mem_append_left _ (b.cl z h (fun e => hn (h1 z e)) t ht htS)
    · rw [List.mem_singleton.mp h] at hn
      exact absurd h2 hn
theorem BM.less {A L : Nat} {S F : List Nat} {E E' : Nat → Prop} (b : BM A L S F E) (h : ∀ z, z ∈ F → E z → ¬ E' z → ∀ y, y ∈ nearF A L z → y ∈ S → y ∈ F) : BM A L S F E' where
  nd := b.nd
  sub := b.sub
  hd := b.hd
  cn := b.cn
  cl := fun x hx hn y hy hyS => by
    rcases Classical.em (E x) with e | e
    · exact h x hx e hn y hy hyS
    · exact b.cl x hx e y hy hyS
theorem nodup_len {α : Type} [DecidableEq α] : ∀ {F S : List α}, F.Nodup → (∀ x, x ∈ F → x ∈ S) → F.length ≤ S.length
  | [], _, _, _ => Nat.zero_le _
  | a :: F, S, h, hs => by
    rw [List.nodup_cons] at h
    have h1 : F.length ≤ (S.erase a).length := nodup_len h.2 fun x hx => (List.mem_erase_of_ne (fun e => h.1 (by rw [← e]; exact hx))).mpr (hs x (List.mem_cons_of_mem _ hx))
    have h2 : a ∈ S := hs a List.mem_cons_self
    rw [List.length_erase_of_mem h2] at h1
    have : 0 < S.length := List.length_pos_of_mem h2
    simp only [List.length_cons]
    omega
theorem BM.len {A L : Nat} {S F : List Nat} {E : Nat → Prop} (b : BM A L S F E) : F.length ≤ S.length := nodup_len b.nd b.sub
/-- the way towards the hub -/
theorem root_of {L : Nat} {S : List Nat} (Q : Nat → Prop) (step : ∀ x, Q x → x ≠ 0 → innF L x ∈ S → Q (innF L x)) : ∀ n x, x ≤ n → x ∈ S → Q x → ∃ r, r ∈ S ∧ rootS L S r = true ∧ Q r ∧ r ≤ x
  | n, x, hn, hx, q => by
    by_cases h : rootS L S x = true
    · exact ⟨x, hx, h, q, Nat.le_refl _⟩
    · have h' : ¬ (x = 0) ∧ innF L x ∈ S := by
        unfold rootS at h
        simpa using h
      have hlt := inn_lt (L := L) h'.1
      cases n with
      | zero => omega
      | succ n =>
        obtain ⟨r, h1, h2, h3, h4⟩ := root_of Q step n (innF L x) (by omega) h'.2 (step x q h'.1 h'.2)
        exact ⟨r, h1, h2, h3, by omega⟩
/-- one only -/
theorem len1 {α : Type} {l : List α} (nd : l.Nodup) : l.length = 1 ↔ ∃ a, a ∈ l ∧ ∀ b, b ∈ l → b = a := by
  constructor
  · intro h
    obtain ⟨a, rfl⟩ := List.length_eq_one_iff.mp h
    exact ⟨a, by simp, fun b hb => by simpa using hb⟩
  · rintro ⟨a, ha, h⟩
    match l, nd with
    | [], _ => cases ha
    | [x], _ => rfl
    | x :: y :: r, nd =>
      have e1 := h x (by simp)
      have e2 := h y (by simp)
      rw [e1, e2] at nd
      simp at nd
theorem hang_iff {L : Nat} {S : List Nat} (nd : S.Nodup) : hangF L S = true ↔ ∃ r, (r ∈ S ∧ rootS L S r = true) ∧ ∀ x, x ∈ S → rootS L S x = true → x = r := by
  unfold hangF
  rw [beq_iff_eq, len1 (nd.filter _)]
  constructor
  · rintro ⟨r, h1, h2⟩
    have := List.mem_filter.mp h1
    exact ⟨r, this, fun x hx hr => h2 x (List.mem_filter.mpr ⟨hx, hr⟩)⟩
  · rintro ⟨r, h1, h2⟩
    exact ⟨r, List.mem_filter.mpr h1, fun x hx => h2 x (List.mem_filter.mp hx).1 (List.mem_filter.mp hx).2⟩
/-- the search tells whether the cells hang together -/
theorem hang_found {A L : Nat} {S F : List Nat} (hL : 0 < L) (nd : S.Nodup) (hS : ∀ c, c ∈ S → c < 1 + A * L) (hne : S ≠ []) (b : BM A L S F (fun _ => False)) : (F.length == S.length) = hangF L S := by
  obtain ⟨s, S', rfl⟩ : ∃ s S', S = s :: S' := by
    cases S with
    | nil => exact absurd rfl hne
    | cons s S' => exact ⟨s, S', rfl⟩
  generalize hT : s :: S' = S at nd hS b ⊢
  have hh : S.head? = some s := by rw [← hT]; rfl
  have hs : s ∈ S := by rw [← hT]; simp
  rw [Bool.eq_iff_iff, beq_iff_eq, hang_iff nd]
  -- the roots of two cells that stand side by side are one
  let Rt : Nat → Nat → Prop := fun x r => r ∈ S ∧ rootS L S r = true ∧ ∃ p : List Nat, True ∧ (∀ G : Nat → Prop, G x → (∀ z, G z → z ≠ 0 → innF L z ∈ S → G (innF L z)) → G r)
  have rex : ∀ x, x ∈ S → ∃ r, Rt x r := fun x hx => by
    obtain ⟨r, h1, h2, h3, _⟩ := root_of (L := L) (S := S) (fun z => ∀ G : Nat → Prop, G x → (∀ z, G z → z ≠ 0 → innF L z ∈ S → G (innF L z)) → G z) (fun z q hz hi G g1 g2 => g2 z (q G g1 g2) hz hi) x x (Nat.le_refl _) hx (fun G g _ => g)
    exact ⟨r, h1, h2, [], trivial, h3⟩
  constructor
  · intro hlen
    -- all is found
    have hall : ∀ x, x ∈ S → x ∈ F := fun x hx => by
      rcases Classical.em (x ∈ F) with h | h
      · exact h
      · have h1 : F.length ≤ (S.erase x).length := nodup_len b.nd fun y hy => (List.mem_erase_of_ne (fun e => h (by rw [← e]; exact hy))).mpr (b.sub y hy)
        rw [List.length_erase_of_mem hx] at h1
        have : 0 < S.length := List.length_pos_of_mem hx
        omega
    obtain ⟨r, r1, r2, _, _, r3⟩ := rex s hs
    refine ⟨r, ⟨r1, r2⟩, fun x hx hxr => ?_⟩
    -- every cell's way ends at r
    have hG := b.cn (fun z => ∀ q, q ∈ S → rootS L S q = true → (∀ G : Nat → Prop, G z → (∀ z, G z → z ≠ 0 → innF L z ∈ S → G (innF L z)) → G q) → q = r)
    have uniq : ∀ z q q', q ∈ S → rootS L S q = true → q' ∈ S → rootS L S q' = true → (∀ G : Nat → Prop, G z → (∀ z, G z → z ≠ 0 → innF L z ∈ S → G (innF L z)) → G q) →
        (∀ G : Nat → Prop, G z → (∀ z, G z → z ≠ 0 → innF L z ∈ S → G (innF L z)) → G q') → q = q' := by
      intro z q q' hq rq hq' rq' g g'
      -- all on z's way lead to q
      have : ∀ y, (∀ G : Nat → Prop, G z → (∀ z, G z → z ≠ 0 → innF L z ∈ S → G (innF L z)) → G y) → True := fun _ _ => trivial
      have stop : ∀ t, rootS L S t = true → t ≠ 0 → innF L t ∈ S → False := fun t ht h0 hi => by
        unfold rootS at ht
        simp [h0, hi] at ht
      have h1 : (q = q' ∨ ∃ u, u ≠ q ∧ False) ∨ q = q' := by
        have := g' (fun y => (∀ G : Nat → Prop, G y → (∀ z, G z → z ≠ 0 → innF L z ∈ S → G (innF L z)) → G q) ∨ (∀ G : Nat → Prop, G q → (∀ z, G z → z ≠ 0 → innF L z ∈ S → G (innF L z)) → G y)) (.inl g) (fun y hy h0 hi => by
          rcases hy with hy | hy
          · -- y leads to q: y = q or its next leads to q
            have := hy (fun t => t = y ∨ (∀ G : Nat → Prop, G (innF L y) → (∀ z, G z → z ≠ 0 → innF L z ∈ S → G (innF L z)) → G t)) (.inl rfl) (fun t ht t0 ti => by
              rcases ht with rfl | ht
              · exact .inr fun G g1 g2 => g1
              · exact .inr fun G g1 g2 => g2 t (ht G g1 g2) t0 ti)
            rcases this with e | e
            · subst e
              exact (stop q rq h0 hi).elim
            · exact .inl e
          · exact .inr fun G g1 g2 => g2 y (hy G g1 g2) h0 hi)
        rcases this with h | h
        · have := h (fun t => t = q') rfl (fun t ht t0 ti => by
            subst ht
            exact (stop t rq' t0 ti).elim)
          exact .inr this
        · have := h (fun t => t = q) rfl (fun t ht t0 ti => by
            subst ht
            exact (stop t rq t0 ti).elim)
          exact .inr this.symm
      rcases h1 with (h | ⟨_, _, h⟩) | h
      · exact h
      · exact h.elim
      · exact h
    have hx' := hG (fun t ht q hq rq gq => by
        rw [hh] at ht
        cases ht
        exact uniq s q r hq rq r1 r2 gq r3) (fun y z hy gy hz hzS q hq rq gq => by
        rcases (mem_near hL (hS y hy) (hS z hzS)).mp hz with ⟨h0, e⟩ | ⟨h0, e⟩
        · -- z is next of y
          exact gy q hq rq fun G g1 g2 => gq G (by rw [e]; exact g2 y g1 h0 (by rw [← e]; exact hzS)) g2
        · -- y is next of z
          refine gy q hq rq ?_
          have := gq (fun t => t = z ∨ (∀ G : Nat → Prop, G y → (∀ z, G z → z ≠ 0 → innF L z ∈ S → G (innF L z)) → G t)) (.inl rfl) (fun t ht t0 ti => by
              rcases ht with rfl | ht
              · exact .inr fun G g1 g2 => by rw [← e]; exact g1
              · exact .inr fun G g1 g2 => g2 t (ht G g1 g2) t0 ti)
          rcases this with e' | e'
          · subst e'
            unfold rootS at rq
            rw [← e] at rq
            simp [h0, hy] at rq
          · exact e') x (hall x hx)
    exact hx' x hx hxr fun G g _ => g
  · rintro ⟨r, ⟨r1, r2⟩, r3⟩
    have hrF : r ∈ F := by
      obtain ⟨q, q1, q2, q3, _⟩ := root_of (L := L) (S := S) (fun z => z ∈ F) (fun z hz h0 hi => b.cl z hz (fun e => e) _ ((mem_near hL (hS z (b.sub z hz)) (hS _ hi)).mpr (.inl ⟨h0, rfl⟩)) hi) s s (Nat.le_refl _) hs (b.hd s hh)
      rw [← r3 q q1 q2]
      exact q3
    have hall : ∀ n x, x ≤ n → x ∈ S → x ∈ F := by
      intro n
      induction n with
      | zero =>
        intro x hx hxS
        have : x = r := r3 x hxS (by unfold rootS; simp [show x = 0 by omega])
        rw [this]; exact hrF
      | succ n ih =>
        intro x hx hxS
        by_cases hr : rootS L S x = true
        · rw [r3 x hxS hr]; exact hrF
        · have h' : ¬ (x = 0) ∧ innF L x ∈ S := by
            unfold rootS at hr
            simpa using hr
          have hlt := inn_lt (L := L) h'.1
          have hi := ih (innF L x) (by omega) h'.2
          exact b.cl _ hi (fun e => e) x ((mem_near hL (hS _ h'.2) (hS x hxS)).mpr (.inr ⟨h'.1, rfl⟩)) hxS
    exact Nat.le_antisymm b.len (nodup_len nd fun x hx => hall x x (Nat.le_refl _) hx)
end SL

set_option maxHeartbeats 2000000
/-! what the defs compute (plain), the first walks -/
namespace SL
open PySem PySem.Spec PyProof.Rows L2 GxR GX StX

/-! ### more rules -/
section
variable {X : Cx} {σ : L2.St} {H : Hp} {e a b c : Expr} {pos p : Pos} {ds : List Dat} {i : Int}
/-- a number, a list as a test -/
theorem t_i (h : EV X σ H e (isd X (.int i))) (he : ∀ whole, isTrue e X.env whole = (do let v ← whole; standAt e.pos; holding [v] (truthy v)) := by intro _; rfl) : ET X σ H e (i != 0) :=
  ET.by (pt_truth pwe he) fun H1 e1 Q k => h H1 e1 _ fun v H2 e2 r => ⟨_, by rw [int_inv r]; rfl, k H2 e2⟩
theorem t_lst (h : EV X σ H e (isl X ds)) (he : ∀ whole, isTrue e X.env whole = (do let v ← whole; standAt e.pos; holding [v] (truthy v)) := by intro _; rfl) : ET X σ H e (!ds.isEmpty) :=
  ET.by (pt_truth pwe he) fun H1 e1 Q k => h H1 e1 _ fun v H2 e2 ⟨q, xs, ev, hq, hd⟩ => ⟨!ds.isEmpty, by
    have z : ds.isEmpty = xs.isEmpty := by
      have := hd.length
      cases xs <;> cases ds <;> simp_all
    rw [ev, z]
    exact .inl ⟨xs, hq, rfl⟩, k H2 e2⟩
theorem v_addn {m n : Nat} (ha : EV X σ H a (isd X (nd m))) (hb : EV X σ H b (isd X (nd n))) : EV X σ H (.BinOp a .Add b pos) (isd X (nd (m + n))) := (v_add ha hb).to (by simp [nd])
theorem v_subn {m n : Nat} (ha : EV X σ H a (isd X (nd m))) (hb : EV X σ H b (isd X (nd n))) (h : n ≤ m) : EV X σ H (.BinOp a .Sub b pos) (isd X (nd (m - n))) := (v_sub ha hb).to (by simp only [nd]; congr 1; omega)
theorem v_muln {m n : Nat} (ha : EV X σ H a (isd X (nd m))) (hb : EV X σ H b (isd X (nd n))) (h : m < 2 ^ 64) : EV X σ H (.BinOp a .Mult b pos) (isd X (nd (m * n))) := (v_mul ha hb (.inl ⟨by omega, by omega⟩)).to (by simp [nd])
theorem v_modn {m n : Nat} (ha : EV X σ H a (isd X (nd m))) (hb : EV X σ H b (isd X (nd n))) (h : 0 < n) : EV X σ H (.BinOp a .Mod b pos) (isd X (nd (m % n))) := (v_mod ha hb (by omega)).to (by simp [nd])
theorem v_fdivn {m n : Nat} (ha : EV X σ H a (isd X (nd m))) (hb : EV X σ H b (isd X (nd n))) (h : 0 < n) (h2 : n < 1073741824) : EV X σ H (.BinOp a .FloorDiv b pos) (isd X (nd (m / n))) := (v_fdiv ha hb ⟨by omega, by omega⟩).to (by simp [nd])
theorem v_num {n : Nat} {k : Nat} : EV X σ H (.Constant (.int (n : Int)) k pos) (isd X (nd n)) := v_int
theorem t_ltn {m n : Nat} (ha : EV X σ H a (isd X (nd m))) (hb : EV X σ H b (isd X (nd n))) : ET X σ H (.Compare a [.Lt] [b] pos) (decide (m < n)) := (t_lt ha hb).to (by simp)
theorem t_gtn {m n : Nat} (ha : EV X σ H a (isd X (nd m))) (hb : EV X σ H b (isd X (nd n))) : ET X σ H (.Compare a [.Gt] [b] pos) (decide (n < m)) := (t_gt ha hb).to (by simp)
theorem t_gen {m n : Nat} (ha : EV X σ H a (isd X (nd m))) (hb : EV X σ H b (isd X (nd n))) : ET X σ H (.Compare a [.GtE] [b] pos) (decide (n ≤ m)) := (t_ge ha hb).to (by simp)
theorem t_eqn {m n : Nat} (ha : EV X σ H a (isd X (nd m))) (hb : EV X σ H b (isd X (nd n))) : ET X σ H (.Compare a [.Eq] [b] pos) (m == n) := (t_eq ha hb).to (by
  rw [Bool.eq_iff_iff, decide_eq_true_iff, beq_iff_eq]
  exact ⟨fun z => Int.ofNat.inj z, fun z => by rw [z]⟩)
theorem t_nen {m n : Nat} (ha : EV X σ H a (isd X (nd m))) (hb : EV X σ H b (isd X (nd n))) : ET X σ H (.Compare a [.NotEq] [b] pos) (m != n) := (t_ne ha hb).to (by
  show _ = !(m == n)
  rw [show decide ((m : Int) = (n : Int)) = (m == n) by
    rw [Bool.eq_iff_iff, decide_eq_true_iff, beq_iff_eq]
    exact ⟨fun z => Int.ofNat.inj z, fun z => by rw [z]⟩])
end
section
variable {X : Cx} {σ : L2.St} {H : Hp} {D : Ends} {rest : List Stmt} {e : Expr} {pos : Pos} {d : Dat} {ds : List Dat}
theorem RR.ext {K : PySem.W.Frag} {H0 H1 H2 : Hp} {v : V} (t : Ext H0 H1) : ∀ {r : AD}, RR K H1 v H2 r → RR K H0 v H2 r
  | .d x, h => h
  | .l ds, ⟨p, xs, e, h1, h2⟩ => ⟨p, xs, e, t.free h1, h2⟩
theorem b_retd (he : EV X σ H e (isd X d)) (k : ∀ v H', Ext H H' → RR X.K H v H' (.d d) → D.rt v H') : WB X (.Return (some e) pos :: rest) D σ H := b_ret he k
theorem b_retl (he : EV X σ H e (isn X ds)) (k : ∀ v H', Ext H H' → RR X.K H v H' (.l ds) → D.rt v H') : WB X (.Return (some e) pos :: rest) D σ H := b_ret he k
theorem b_retS (i : Nat) {q : Addr} {xs : List V} {x : Str} {p : Pos} (hσ : σ[i]? = some (some (.ref q))) (hl : H q = some (.lst xs)) (hd : TDs X.K H xs ds) (k : ∀ H', Ext H H' → H' q = some (.lst xs) → TDs X.K H' xs ds → D.rt (.ref q) H') (hN : X.N[i]? = some x := by rfl) (hv : Vis X.env.scope x := by first | exact Or.inl rfl | exact Or.inr (Or.inl rfl) | exact Or.inr (Or.inr rfl))
    (h1 : (x == ("__debug__" : Str)) = false := by decide) (h2 : (x == ("__classdict__" : Str)) = false := by decide) : WB X (.Return (some (.Name x p)) pos :: rest) D σ H :=
  b_ret (R := isr (.ref q)) (v_r i hσ hN hv h1 h2) fun v H' e r => by
    rw [show v = .ref q from r]
    exact k H' e (e.lst hl) (hd.mono e.tk)
theorem ars2 {K : PySem.W.Frag} {vs : List V} {x y : AD} (h : ARs K H vs [x, y]) : ∃ a b, vs = [a, b] ∧ AR K H a x ∧ AR K H b y := by
  cases h with
  | cons h1 h2 =>
    obtain ⟨b, rfl, h3⟩ := ars_one h2
    exact ⟨_, _, rfl, h1, h3⟩
theorem ars3 {K : PySem.W.Frag} {vs : List V} {x y z : AD} (h : ARs K H vs [x, y, z]) : ∃ a b c, vs = [a, b, c] ∧ AR K H a x ∧ AR K H b y ∧ AR K H c z := by
  cases h with
  | cons h1 h2 =>
    obtain ⟨b, c, rfl, h3, h4⟩ := ars2 h2
    exact ⟨_, _, _, rfl, h1, h3, h4⟩
end
theorem filter_all (m : Nat) : (List.range m).filter (fun _ => true) = List.range m := by simp

/-! ### names of the module -/
structure Bt (mg : Str → Option Value) : Prop where
  len : mg "len" = none
  range : mg "range" = none
  isin : mg "isinstance" = none
  int : mg "int" = none
  bool : mg "bool" = none
  str : mg "str" = none
  max : mg "max" = none
  tuple : mg "tuple" = none
  list : mg "list" = none
  sorted : mg "sorted" = none
  enum : mg "enumerate" = none
  all : mg "all" = none
  any : mg "any" = none
  mostL : ∃ t, mg "MOST_LENGTH" = some (.int 4 t)
  leastA : ∃ t, mg "LEAST_ARMS" = some (.int 3 t)
  mostA : ∃ t, mg "MOST_ARMS" = some (.int 4 t)
  ball : bootBuiltins "all" = some (.builtin "all")
/-- a def of the module keeps its word -/
structure Clb (P : Program) (w : World) (K : PySem.W.Frag) (mg : Str → Option Value) (base : Heap) (k : Nat) (x : Str) (sp : Sp) : Prop where
  ex : ∃ f fd ps, FnOk P w K mg base CX0 k f fd ps sp ∧ mg x = some (.ref f) ∧ PySem.W.keepIn K (.ref f) = true ∧ Binds K fd ps []
section
variable {X : Cx} {σ : L2.St} {H : Hp} {e : Expr} {es : List Expr} {pos p : Pos} {d : Dat} {ds : List Dat} {x : Str} {j k : Nat} {T : List Addr} {S : List AD → AD → Prop} {as : List AD} {sp : Sp} {t : TA}
theorem pe_cl (F : Clb X.prog X.w X.K X.mg X.base k x sp) (hr : Room j X.A) (ha : PA X (e :: es) t) (hk : k ≤ j := by decide) (hg : Gl X x := by rfl) (hdb : (x == ("__debug__" : Str)) = false := by decide) (he : starEach (e :: es) X.env = (false, eval e X.env) :: starEach es X.env := by rfl)
    (hpl : (backTo pos (starEach es X.env)).any (·.1) = false := by rfl) : PE X (.Call (.Name x p) (e :: es) [] pos) (tCall sp [] E0 t) := by
  obtain ⟨f, fd, ps, F, hm, hkp, hb⟩ := F.ex
  exact pe_call F (hr.mono hk) hg hm hkp hb .nil pass0 ha hdb he hpl
theorem v_cl (F : Clb X.prog X.w X.K X.mg X.base k x (spR X.K T S)) (hr : Room j X.A) (hT : Tabs T H) (ha : EA X σ H (e :: es) as) (hS : S as (.d d)) (hk : k ≤ j := by decide) (hg : Gl X x := by rfl) (hdb : (x == ("__debug__" : Str)) = false := by decide) (he : starEach (e :: es) X.env = (false, eval e X.env) :: starEach es X.env := by rfl)
    (hpl : (backTo pos (starEach es X.env)).any (·.1) = false := by rfl) : EV X σ H (.Call (.Name x p) (e :: es) [] pos) (isd X d) := by
  obtain ⟨f, fd, ps, F, hm, hkp, hb⟩ := F.ex
  exact v_call F (hr.mono hk) hm hkp hb hT ha hS hg hdb he hpl
theorem v_clL (F : Clb X.prog X.w X.K X.mg X.base k x (spR X.K T S)) (hr : Room j X.A) (hT : Tabs T H) (ha : EA X σ H (e :: es) as) (hS : S as (.l ds)) (hk : k ≤ j := by decide) (hg : Gl X x := by rfl) (hdb : (x == ("__debug__" : Str)) = false := by decide) (he : starEach (e :: es) X.env = (false, eval e X.env) :: starEach es X.env := by rfl)
    (hpl : (backTo pos (starEach es X.env)).any (·.1) = false := by rfl) : EV X σ H (.Call (.Name x p) (e :: es) [] pos) (isn X ds) := by
  obtain ⟨f, fd, ps, F, hm, hkp, hb⟩ := F.ex
  exact v_callL F (hr.mono hk) hm hkp hb hT ha hS hg hdb he hpl
end

section
variable {P : Program} {w : World} {K : PySem.W.Frag} {mg : Str → Option Value} {base : Heap}
abbrev Ok0 (P : Program) (w : World) (K : PySem.W.Frag) (mg : Str → Option Value) (base : Heap) (k : Nat) (f : Addr) (fd : FuncData) (ps : List Str) (T : List Addr) (S : List AD → AD → Prop) : Prop := FnOk P w K mg base CX0 k f fd ps (spR K T S)

def isinS (as : List AD) (r : AD) : Prop := ∃ v lo hi : Nat, as = [.d (nd v), .d (nd lo), .d (nd hi)] ∧ r = .d (.bl (decide (lo ≤ v) && decide (v ≤ hi)))
theorem ok_is_in {f : Addr} {fd : FuncData} {T : List Addr} (F : Fun K "is_in" "is_in" t_is_in f fd) (B : Bt mg) : Ok0 P w K mg base 1 f fd p_is_in T isinS := by
  refine okR F sc_is_in (fun as r h => ?_) (fun cdv A outer s H vs Q E as r hcd hr hT ha hs hq => ?_)
  · obtain ⟨v, lo, hi, rfl, _⟩ := h
    rfl
  · obtain ⟨v, lo, hi, rfl, rfl⟩ := hs
    have nd := sc_is_in.nd
    obtain ⟨a, b, c, rfl, a1, a2, a3⟩ := ars3 ha
    cases a1
    cases a2
    cases a3
    refine b_retd ?_ fun v H' e r => hq v H' e r
    exact (v_and (q := true) (v_isi B.isin B.int boot_int (v_n 0 rfl (.int _)) (by rfl)) fun _ => v_and (q := true) (v_not (v_isi (q := false) B.isin B.bool boot_bool (v_n 0 rfl (.int _)) (by rfl))) fun _ => v_and1 (v_lele (v_n 1 rfl (.int _)) (v_n 0 rfl (.int _)) (v_n 2 rfl (.int _)))).to (by simp)

def nearS (as : List AD) (r : AD) : Prop := ∃ A L c : Nat, as = [.d (nd A), .d (nd L), .d (nd c)] ∧ A ≤ 1000 ∧ 0 < L ∧ L ≤ 1000 ∧ c ≤ 1000 ∧ r = .l ((nearF A L c).map nd)
theorem ok_near {f : Addr} {fd : FuncData} {T : List Addr} (F : Fun K "near" "near" t_near f fd) (B : Bt mg) : Ok0 P w K mg base 1 f fd p_near T nearS := by
  refine okR F sc_near (fun as r h => ?_) (fun cdv A outer s H vs Q E as r hcd hr hT ha hs hq => ?_)
  · obtain ⟨A, L, c, rfl, _⟩ := h
    rfl
  · obtain ⟨A, L, c, rfl, hA, hL, hL2, hc, rfl⟩ := hs
    have nd := sc_near.nd
    obtain ⟨a, b, c, rfl, a1, a2, a3⟩ := ars3 ha
    cases a1
    cases a2
    cases a3
    refine b_if (t_eqn (v_n 2 rfl (.int _)) v_num) (fun hz H1 e1 => ?_) (fun hz H1 e1 => b_nil ?_)
    · refine b_retl (ds := ((List.range A).filter fun _ => true).map fun i => SL.nd (1 + i * L)) (v_lcR 5 (q := fun _ => true) (gd := fun i => SL.nd (1 + i * L)) (v_n 0 rfl (.int _)) (by omega) B.range (fun i H' hi e' s H0 C cl fp =>
        ⟨c_nil, fun _ => v_addn v_num (v_muln (v_n 5 rfl (.int _)) (v_n 1 rfl (.int _)) (by omega))⟩)) fun v H' e r => hq v H' (e1.trans e) ?_
      rw [show (nearF A L c) = (List.range A).map (fun a => 1 + a * L) from if_pos (by simpa using hz), List.map_map]
      rw [filter_all] at r
      exact r.ext e1
    · have hc0 : c ≠ 0 := by simpa using hz
      refine b_set 3 (v_modn (v_subn (v_n 2 rfl (.int _)) (v_num (n := 1)) (by omega)) (v_n 1 rfl (.int _)) hL) fun v H2 e2 r2 => ?_
      have r2 := int_inv r2
      subst r2
      refine b_set 4 (v_lst (ds := [SL.nd (if (c - 1) % L = 0 then 0 else c - 1)]) (a_d (v_ifd (t_i (v_n 3 rfl (.int _))) (fun h => (v_subn (v_n 2 rfl (.int _)) (v_num (n := 1)) (by omega)).to ?_) (fun h => (v_num (n := 0)).to ?_)) a_nil) (by simp [sizeLine_eq])) fun v H3 e3 r3 => ?_
      · rw [if_neg]
        have h2 : (((c - 1) % L : Nat) : Int) ≠ 0 := by simpa using h
        omega
      · rw [if_pos]
        have h2 : (((c - 1) % L : Nat) : Int) = 0 := by simpa using h
        omega
      obtain ⟨q, xs, rfl, hq0, hqx, hd⟩ := r3
      have hN : nearF A L c = (if (c - 1) % L = 0 then 0 else c - 1) :: (if (c - 1) % L + 1 < L then [c + 1] else []) := if_neg hc0
      refine b_if (t_ltn (v_addn (v_n 3 rfl (.int _)) v_num) (v_n 1 rfl (.int _))) (fun h H4 e4 => ?_) (fun h H4 e4 => ?_)
      · refine b_app 4 rfl (e4.lst hqx) (v_addn (v_n 2 rfl (.int _)) (v_num (n := 1))) (by rw [hd.length]; simp [sizeLine_eq]) fun v H5 e5 r5 => b_nil ?_
        refine b_retS 4 rfl upd_same (((hd.mono (e4.trans e5).tk).append (.cons r5 .nil)).mono (Tk.mutL ((e4.trans e5).lst hqx))) fun H6 e6 hl hd6 => ?_
        refine hq _ H6 (((((e1.trans e2).trans e3).trans (e4.trans e5)).mut ((e1.trans e2).free hq0)).trans e6) ⟨q, _, rfl, (e1.trans e2).free hq0, hl, ?_⟩
        rw [hN, show (if (c - 1) % L + 1 < L then [c + 1] else []) = [c + 1] from if_pos (by simpa using h)]
        exact hd6
      · refine b_nil (b_retS 4 rfl (e4.lst hqx) (hd.mono e4.tk) fun H6 e6 hl hd6 => ?_)
        refine hq _ H6 ((((e1.trans e2).trans e3).trans e4).trans e6) ⟨q, _, rfl, (e1.trans e2).free hq0, hl, ?_⟩
        rw [hN, show (if (c - 1) % L + 1 < L then [c + 1] else []) = [] from if_neg (by simpa using h)]
        exact hd6
end
end SL

set_option maxHeartbeats 4000000
/-! walks: length_of, held, hangs -/
namespace SL
open PySem PySem.Spec PyProof.Rows L2 GxR GX StX

theorem map_get {l : List Nat} {i n : Nat} (h : l[i]? = some n) : (l.map nd)[i]? = some (nd n) := by
  rw [List.getElem?_map, h]; rfl
theorem nd_get {l : List Nat} {i : Nat} {d : Dat} (h : (l.map nd)[i]? = some d) : ∃ n, l[i]? = some n ∧ d = nd n := by
  rw [List.getElem?_map] at h
  cases e : l[i]? with
  | none => rw [e] at h; cases h
  | some n => rw [e] at h; exact ⟨n, rfl, (Option.some.inj h).symm⟩
theorem len_nd {l : List Nat} : (l.map nd).length = l.length := List.length_map ..
section
variable {X : Cx} {σ : L2.St} {H : Hp} {elt iter : Expr} {ifs : List Expr} {scope : Scope} {pos pt : Pos} {x y : Str} {px py : Pos} {kt : Nat} {wi : TI}
theorem arsd1 {K : PySem.W.Frag} {vs : List V} {x : Dat} (h : ARs K H vs [.d x]) : ∃ a, vs = [a] ∧ TD K H a x := ars_one h
theorem arsd2 {K : PySem.W.Frag} {vs : List V} {x y : Dat} (h : ARs K H vs [.d x, .d y]) : ∃ a b, vs = [a, b] ∧ TD K H a x ∧ TD K H b y := ars2 h
/-- [elt for x, y in pairs if ..] -/
theorem v_lcP (ix iy : Nat) {m : Nat} {d1 d2 : Nat → Dat} {q : Nat → Bool} {gd : Nat → Dat} (hi : PI X (.Tuple [.Name x px, .Name y py] kt pt) iter wi) (hwi : ∀ H1, Ext H H1 → ∀ R : It → Hp → Prop, (∀ J H2, Ext H1 H2 → Ylds J H2 m (fun i v H4 => TD X.K H4 v (.tup [d1 i, d2 i])) → R J H2) → wi σ H1 R)
    (hm : m ≤ sizeLine)
    (hel : ∀ i u v H', i < m → TD X.K H' u (d1 i) → TD X.K H' v (d2 i) → Ext H H' → ∀ s H0 C cl fp, EC (bcx X s H0 C cl fp scope) (((wipe σ [ix, iy]).set ix (some u)).set iy (some v)) H' ifs (q i) ∧ (q i = true → EV (bcx X s H0 C cl fp scope) (((wipe σ [ix, iy]).set ix (some u)).set iy (some v)) H' elt (isd X (gd i))))
    (hxy : ix ≠ iy := by decide) (ok : BlkOk X.N X.env.scope scope [(x, ix), (y, iy)] := by exact blkOk_by (by rfl)) (hN : X.N.Nodup := by assumption) (hc : X.calm = true := by rfl) (h1 : X.N[ix]? = some x := by rfl) (h2 : X.N[iy]? = some y := by rfl) (hx : scope.names.lookup x = some .local := by rfl) (hy : scope.names.lookup y = some .local := by rfl)
    (hs : ∀ v, foldedSetIterable iter X.env v = pure v := by intro _; rfl) :
    EV X σ H (.ListComp elt [⟨.Tuple [.Name x px, .Name y py] kt pt, iter, ifs, 0⟩] scope pos) (isn X (((List.range m).filter q).map gd)) := by
  refine v_lc (own := [(x, ix), (y, iy)]) (g := gTup X.K 2 (gCons (gName ix) (gCons (gName iy) gNil))) hi hwi hc hN ok hm (fun s H0 C cl fp => by
      have g1 : PG (X.blk s H0 scope (compEnvC scope cl C X.env) fp) (.Name x px) (gName ix) := pg_name hN h1 (.inl (lookup_relabel_local hx)) (.inr (lookup_relabel_local hx))
      have g2 : PG (X.blk s H0 scope (compEnvC scope cl C X.env) fp) (.Name y py) (gName iy) := pg_name hN h2 (.inl (lookup_relabel_local hy)) (.inr (lookup_relabel_local hy))
      exact pg_tup hc (pgs_cons g1 (pgs_cons g2 pgs_nil)))
    (fun i w H4 hi e4 t K k => ?_) hs
  obtain ⟨a, xs, rfl, h3, h4⟩ := tup_inv t
  cases h4 with
  | cons g1 g2 =>
    cases g2 with
    | cons g3 g4 =>
      cases g4
      refine ⟨a, _, rfl, h3, rfl, _, _, rfl, _, _, rfl, rfl, k _ _ (Ext.refl _) ?_ (hel i _ _ H4 hi g1 g3 e4)⟩
      show (((((((σ.set iy none).set ix none).set ix _).set iy _).set iy none).set ix none)) = ((σ.set iy none).set ix none)
      apply List.ext_getElem?
      intro j
      simp only [List.getElem?_set, List.length_set]
      by_cases e1 : ix = j <;> by_cases e2 : iy = j <;> simp_all
end
section
variable {P : Program} {w : World} {K : PySem.W.Frag} {mg : Str → Option Value} {base : Heap}

def lofS (as : List AD) (r : AD) : Prop := ∃ m : Map, as = [.d (chd m)] ∧ 0 < m.1 ∧ m.1 ≤ 1000 ∧ 0 < m.2.length ∧ r = .d (nd ((m.2.length - 1) / m.1))
theorem ok_length_of {f : Addr} {fd : FuncData} {T : List Addr} (F : Fun K "length_of" "length_of" t_length_of f fd) (B : Bt mg) : Ok0 P w K mg base 1 f fd p_length_of T lofS := by
  refine okR F sc_length_of (fun as r h => ?_) (fun cdv A outer s H vs Q E as r hcd hr hT ha hs hq => ?_)
  · obtain ⟨m, rfl, _⟩ := h
    rfl
  · obtain ⟨m, rfl, h1, h2, h3, rfl⟩ := hs
    have nd := sc_length_of.nd
    obtain ⟨a, rfl, a1⟩ := arsd1 ha
    refine b_retd ?_ fun v H' e r => hq v H' e r
    exact v_fdivn (v_subn ((v_lenT B.len (v_ixT (n := 1) (v_n 0 rfl a1) (v_num (n := 1)) rfl)).to (by rw [len_nd]; rfl)) (v_num (n := 1)) h3) (v_ixT (n := 0) (v_n 0 rfl a1) (v_num (n := 0)) rfl) h1 (by omega)

def heldS (as : List AD) (r : AD) : Prop := ∃ (cs : List Nat) (x : Nat), as = [.d (lnd cs), .d (nd x)] ∧ cs.length ≤ 1000 ∧ r = .l ((heldF cs x).map nd)
theorem ok_held {f : Addr} {fd : FuncData} {T : List Addr} (F : Fun K "held" "held" t_held f fd) (B : Bt mg) : Ok0 P w K mg base 1 f fd p_held T heldS := by
  refine okR F sc_held (fun as r h => ?_) (fun cdv A outer s H vs Q E as r hcd hr hT ha hs hq => ?_)
  · obtain ⟨cs, x, rfl, _⟩ := h
    rfl
  · obtain ⟨cs, x, rfl, h1, rfl⟩ := hs
    have nd := sc_held.nd
    obtain ⟨a, b, rfl, a1, a2⟩ := arsd2 ha
    cases a2
    refine b_retl (ds := ((List.range (cs.map SL.nd).length).filter fun i => cs.getD i 0 == x).map SL.nd) ?_ fun v H' e r => hq v H' e ?_
    · refine v_lcP 2 3 (d1 := SL.nd) (d2 := fun i => SL.nd (cs.getD i 0)) (q := fun i => cs.getD i 0 == x) (gd := SL.nd) (pi_enumT (by rfl) B.enum (pa_cons pwe pa_nil)) (fun H1 e1 R k => y_enum (v_n 0 rfl a1) H1 e1 R fun J H2 e2 hy => k J H2 e2 fun H3 e3 => ⟨fun i hi => ?_, (hy H3 e3).2⟩) (by rw [len_nd, sizeLine_eq]; omega)
        fun i u v H' hi t1 t2 e' s H0 C cl fp => ?_
      · obtain ⟨g1, g2⟩ := (hy H3 e3).1 i hi
        refine ⟨g1, fun v H4 yv => ⟨(g2 v H4 yv).1, (g2 v H4 yv).2 _ (map_get ?_)⟩⟩
        have hi' : i < cs.length := by rw [len_nd] at hi; exact hi
        rw [List.getD_eq_getElem?_getD, List.getElem?_eq_getElem hi']
        rfl
      · cases t1
        cases t2
        exact ⟨c_one (t_eqn (v_n 3 rfl (.int _)) (v_n 1 rfl (.int _))), fun _ => v_n 2 rfl (.int _)⟩
    · rw [len_nd] at r
      exact r
end
end SL

set_option maxHeartbeats 4000000
/-! walk: hangs -/
namespace SL
open PySem PySem.Spec PyProof.Rows L2 GxR GX StX

theorem t_inr {X : Cx} {σ : L2.St} {H : Hp} {a b : Expr} {pos : Pos} {n : Nat} {l : List Nat} (ha : EV X σ H a (isd X (nd n))) (hb : EV X σ H b (isl X (l.map nd))) (hm : behindInMarks .In b = false := by with_unfolding_all rfl) : ET X σ H (.Compare a [.In] [b] pos) (decide (n ∈ l)) := (t_in ha hb hm).to (by
  rw [Bool.eq_iff_iff, decide_eq_true_iff]
  exact List.contains_iff_mem)
theorem t_notInr {X : Cx} {σ : L2.St} {H : Hp} {a b : Expr} {pos : Pos} {n : Nat} {l : List Nat} (ha : EV X σ H a (isd X (nd n))) (hb : EV X σ H b (isl X (l.map nd))) (hm : behindInMarks .NotIn b = false := by with_unfolding_all rfl) : ET X σ H (.Compare a [.NotIn] [b] pos) (!decide (n ∈ l)) := (t_notIn ha hb hm).to (by
  rw [show l.contains n = decide (n ∈ l) by
    rw [Bool.eq_iff_iff, decide_eq_true_iff]
    exact List.contains_iff_mem])
theorem TDs.nil_ {K : PySem.W.Frag} {H : Hp} {vs : List V} (h : TDs K H vs []) : vs = [] := by cases h; rfl

section
variable {P : Program} {w : World} {K : PySem.W.Frag} {mg : Str → Option Value} {base : Heap}
def hangsS (as : List AD) (r : AD) : Prop := ∃ (A L : Nat) (cs S : List Nat), as = [.d (nd A), .d (lnd cs), .l (S.map nd)] ∧ cs.length = 1 + A * L ∧ 0 < A ∧ A ≤ 4 ∧ 0 < L ∧ L ≤ 4 ∧ S.Nodup ∧ (∀ c, c ∈ S → c < 1 + A * L) ∧ r = .d (.bl (hangF L S))
theorem ok_hangs {f : Addr} {fd : FuncData} {T : List Addr} (F : Fun K "hangs" "hangs" t_hangs f fd) (B : Bt mg) (N : Clb P w K mg base 1 "near" (spR K T nearS)) : Ok0 P w K mg base 2 f fd p_hangs T hangsS := by
  refine okR F sc_hangs (fun as r h => ?_) (fun cdv Ar outer s H vs Q E as r hcd hr hT ha hs hq => ?_)
  · obtain ⟨A, L, cs, S, rfl, _⟩ := h
    rfl
  · obtain ⟨A, L, cs, S, rfl, hcs, hA, hA4, hL, hL4, hnd, hS, rfl⟩ := hs
    have nd := sc_hangs.nd
    have hAL : A * L ≤ 16 := Nat.mul_le_mul hA4 hL4
    obtain ⟨a, b, c, rfl, a1, a2, ps, xs, rfl, hps, hxs⟩ := ars3 ha
    cases a1
    have a2 : TD K H b (lnd cs) := a2
    rw [tds_int_inv hxs] at hps
    have hSl : S.length ≤ 17 := by
      have := nodup_len (S := List.range (1 + A * L)) hnd fun x hx => List.mem_range.mpr (hS x hx)
      rw [List.length_range] at this
      omega
    refine b_if (t_not (t_lst (v_l 2 rfl hps (tds_ints S)))) (fun hz H1 e1 => ?_) (fun hz H1 e1 => b_nil ?_)
    · refine b_retd v_bl fun v H' e r => hq v H' (e1.trans e) ?_
      have : S = [] := by simpa using hz
      rw [this]
      exact r
    · have hne : S ≠ [] := by simpa using hz
      obtain ⟨s0, S', hS0⟩ : ∃ s S', S = s :: S' := by
        cases S with
        | nil => exact absurd rfl hne
        | cons s S' => exact ⟨s, S', rfl⟩
      have hg0 : (S.map SL.nd)[0]? = some (SL.nd s0) := by rw [hS0]; rfl
      have hlen : (cs.length - 1) / A = L := by
        rw [hcs, Nat.add_sub_cancel_left, Nat.mul_div_cancel_left L hA]
      refine b_par3 3 4 5 (v_fdivn (v_subn ((v_lenT B.len (v_n 1 rfl (a2.mono e1.tk))).to (by rw [len_nd]; rfl)) (v_num (n := 1)) (by omega)) (v_n 0 rfl (.int _)) hA (by omega))
        (v_lst (ds := [SL.nd s0]) (a_d (v_ixL (n := 0) (v_l 2 rfl (e1.sql hps) (tds_ints S)) (v_num (n := 0)) hg0) a_nil) (by simp [sizeLine_eq]))
        (v_lst (ds := [SL.nd s0]) (a_d (v_ixL (n := 0) (v_l 2 rfl (e1.sql hps) (tds_ints S)) (v_num (n := 0)) hg0) a_nil) (by simp [sizeLine_eq]))
        fun u v x H2 H3 H4 e2 e3 e4 r1 r2 r3 => ?_
      have r1 := int_inv r1
      rw [hlen] at r1
      subst r1
      obtain ⟨pf, fs, rfl, hf0, hf1, hf2⟩ := r2
      obtain ⟨pr, rs, rfl, hr0, hr1, hr2⟩ := r3
      have hf2 := tds_int_inv (l := [s0]) hf2
      have hr2 := tds_int_inv (l := [s0]) hr2
      subst hf2
      subst hr2
      have npr : pr ≠ pf := fun z => by
        rw [z] at hr0
        rw [hf1] at hr0
        cases hr0
      have e14 := ((e1.trans e2).trans e3).trans e4
      have hHpf : H pf = none := (e1.trans e2).free hf0
      refine b_while (fun m σ H' => ∃ (F' R : List Nat) (pr : Addr) (o6 o7 o8 : Option V), σ = [some (V.int A), some b, some (.ref ps), some (V.int L), some (.ref pf), some (.ref pr), o6, o7, o8] ∧ Ext H H' ∧ pr ≠ pf ∧ H' pf = some (.lst (F'.map nv)) ∧ H' pr = some (.lst (R.map nv)) ∧
          BM A L S F' (fun x => x ∈ R) ∧ (∀ x, x ∈ R → x ∈ F') ∧ m = 2 * (S.length - F'.length) + (if R = [] then 0 else 1)) ⟨_, [s0], [s0], pr, none, none, none, rfl, e14, npr, e4.lst hf1, hr1, ?_, fun _ z => z, rfl⟩ ?_
      · have := BM.start (A := A) (L := L) (S := S) (s := s0) (by rw [hS0]; rfl)
        exact this.less fun z _ h1 h2 => absurd (by simp [h1]) h2
      rintro m σ H5 ⟨F', R, pr, o6, o7, o8, rfl, e5, npr, hpf, hpr, bm, hRF, rfl⟩
      refine ⟨!(R.map SL.nd).isEmpty, t_lst (v_l 5 rfl (SqL.of hpr) (tds_ints R)), fun hz2 H6 e6 => ?_, fun hz2 H6 e6 => ?_⟩
      · -- a round
        have hRne : R ≠ [] := by simpa using hz2
        refine b_set 6 (v_lst (ds := []) a_nil (Nat.zero_le _)) fun v H7 e7 ⟨pm, ms, hv, hm0, hm1, hm2⟩ => ?_
        subst hv
        have hm2 := hm2.nil_
        subst hm2
        have e57 := (e5.trans e6).trans e7
        have nmf : pm ≠ pf := fun z => by
          rw [z, e6.lst hpf] at hm0
          cases hm0
        have nmr : pm ≠ pr := fun z => by
          rw [z, e6.lst hpr] at hm0
          cases hm0
        have hHpm : H pm = none := (e5.trans e6).free hm0
        refine b_forL (ds := R.map SL.nd) (R := isr (.ref pr)) 7 (v_r 5 rfl) fun v H8 e8 rv => ⟨pr, R.map nv, fun i σ' H' => ∃ (F2 M : List Nat) (o7 o8 : Option V), σ' = [some (V.int A), some b, some (.ref ps), some (V.int L), some (.ref pf), some (.ref pr), some (.ref pm), o7, o8] ∧ Ext H H' ∧
            H' pf = some (.lst (F2.map nv)) ∧ H' pr = some (.lst (R.map nv)) ∧ H' pm = some (.lst (M.map nv)) ∧ BM A L S F2 (fun x => x ∈ R.drop i ∨ x ∈ M) ∧ (∀ x, x ∈ R → x ∈ F2) ∧ (∀ x, x ∈ M → x ∈ F2) ∧ F2.length = F'.length + M.length,
          rv, SqL.of (((e6.trans e7).trans e8).lst hpr), tds_ints R, ⟨F', [], o7, o8, rfl, e57.trans e8, ((e6.trans e7).trans e8).lst hpf, ((e6.trans e7).trans e8).lst hpr, e8.lst hm1, bm.less (fun z _ h1 h2 => absurd (.inl (by simpa using h1)) h2), hRF, (fun x hx => by cases hx), by simp⟩, ?_, ?_, ?_⟩
        · rintro i σ' H' ⟨F2, M, o7, o8, _, _, _, h, _⟩
          exact ⟨SqL.of h, tds_ints R⟩
        · rintro i d v σ' H9 hd hv ⟨F2, M, o7, o8, rfl, e9, hf9, hr9, hm9, bm9, hRF9, hMF9, hl9⟩
          obtain ⟨x, hx, rfl⟩ := nd_get hd
          have hv := int_inv hv
          subst hv
          have hxR : x ∈ R := List.mem_of_getElem? hx
          have hxF := hRF9 x hxR
          have hxS := bm9.sub x hxF
          have hdrop : R.drop i = x :: R.drop (i + 1) := by
            have hi : i < R.length := (List.getElem?_eq_some_iff.mp hx).1
            rw [List.drop_eq_getElem_cons hi]
            congr 1
            rw [List.getElem?_eq_getElem hi] at hx
            exact Option.some.inj hx
          have hxb := hS x hxS
          refine b_forL (ds := (nearF A L x).map SL.nd) 8 (v_clL N hr (hT.ext e9) (a_d (v_n 0 rfl (.int _)) (a_d (v_n 3 rfl (.int _)) (a_d (v_n 7 rfl (.int _)) a_nil))) ⟨A, L, x, rfl, by omega, hL, by omega, by omega, rfl⟩) fun v H10 e10 ⟨pn, ys, hv, hn0, hn1, hn2⟩ => ?_
          have hn2 := tds_int_inv hn2
          subst hn2
          have nnf : pf ≠ pn := ne_of_none hf9 hn0
          have nnm : pm ≠ pn := ne_of_none hm9 hn0
          refine ⟨pn, (nearF A L x).map nv, fun j σ' H' => ∃ (F3 M3 : List Nat) (o8 : Option V), σ' = [some (V.int A), some b, some (.ref ps), some (V.int L), some (.ref pf), some (.ref pr), some (.ref pm), some (nv x), o8] ∧ Ext H H' ∧
              H' pf = some (.lst (F3.map nv)) ∧ H' pr = some (.lst (R.map nv)) ∧ H' pm = some (.lst (M3.map nv)) ∧ H' pn = some (.lst ((nearF A L x).map nv)) ∧ BM A L S F3 (fun z => z ∈ R.drop i ∨ z ∈ M3) ∧ (∀ z, z ∈ R → z ∈ F3) ∧ (∀ z, z ∈ M3 → z ∈ F3) ∧ F3.length = F'.length + M3.length ∧
              ∀ y, y ∈ (nearF A L x).take j → y ∈ S → y ∈ F3,
            hv, SqL.of hn1, tds_ints _, ⟨F2, M, o8, rfl, e9.trans e10, e10.lst hf9, e10.lst hr9, e10.lst hm9, hn1, bm9, hRF9, hMF9, hl9, fun y hy => by simp at hy⟩, ?_, ?_, ?_⟩
          · rintro j σ' H' ⟨F3, M3, o8, _, _, _, _, _, h, _⟩
            exact ⟨SqL.of h, tds_ints _⟩
          · rintro j d v σ' H11 hd hv ⟨F3, M3, o8, rfl, e11, hf11, hr11, hm11, hn11, bm11, hRF11, hMF11, hl11, hdone⟩
            obtain ⟨y, hy, rfl⟩ := nd_get hd
            have hv := int_inv hv
            subst hv
            have hyn : y ∈ nearF A L x := List.mem_of_getElem? hy
            have htake : (nearF A L x).take (j + 1) = (nearF A L x).take j ++ [y] := by
              rw [List.take_add_one, hy]; rfl
            refine b_if (q := decide (y ∈ S) && !decide (y ∈ F3)) (t_w (w_and (t_inr (v_n 8 rfl (.int _)) (v_l 2 rfl (e11.sql hps) (tds_ints S))) fun _ => w_and1 (t_notInr (v_n 8 rfl (.int _)) (v_l 4 rfl (SqL.of hf11) (tds_ints F3))))) (fun hq2 H12 e12 => ?_) (fun hq2 H12 e12 => ?_)
            · have hq2' : y ∈ S ∧ y ∉ F3 := by simpa using hq2
              refine b_app 4 rfl (e12.lst hf11) (v_n 8 rfl (.int _)) (by
                have := bm11.len
                rw [List.length_map, sizeLine_eq]
                omega) fun v H13 e13 rv => ?_
              have rv := int_inv rv
              subst rv
              have nfm : pm ≠ pf := nmf
              have hm13 : (upd H13 pf (.lst (F3.map nv ++ [V.int (y : Nat)]))) pm = some (.lst (M3.map nv)) := by
                rw [upd_ne nfm]
                exact (e12.trans e13).lst hm11
              refine b_app 6 rfl hm13 (v_n 8 rfl (.int _)) (by
                have := bm11.len
                rw [List.length_map, sizeLine_eq]
                omega) fun v H14 e14' rv => ?_
              have rv := int_inv rv
              subst rv
              refine b_nil (b_nil ?_)
              have hHpf13 : Ext H (upd H13 pf (.lst (F3.map nv ++ [V.int (y : Nat)]))) := ((e11.trans e12).trans e13).mut hHpf
              refine ⟨F3 ++ [y], M3 ++ [y], _, rfl, (hHpf13.trans e14').mut hHpm, ?_, ?_, ?_, ?_, ?_, fun z hz => List.mem_append_left _ (hRF11 z hz), fun z hz => ?_, ?_, ?_⟩
              · rw [upd_ne nmf.symm, e14'.lst upd_same, List.map_append]
                rfl
              · rw [upd_ne nmr.symm]
                refine e14'.lst ?_
                rw [upd_ne npr]
                exact (e12.trans e13).lst hr11
              · rw [upd_same, List.map_append]
                rfl
              · rw [upd_ne nnm.symm]
                refine e14'.lst ?_
                rw [upd_ne nnf.symm]
                exact (e12.trans e13).lst hn11
              · refine bm11.add (hRF11 x hxR) hyn hq2'.1 hq2'.2 (fun z hz => ?_) (.inr (by simp))
                rcases hz with hz | hz
                · exact .inl hz
                · exact .inr (List.mem_append_left _ hz)
              · rcases List.mem_append.mp hz with hz | hz
                · exact List.mem_append_left _ (hMF11 z hz)
                · exact List.mem_append_right _ hz
              · rw [List.length_append, List.length_append]
                simp only [List.length_singleton]
                omega
              · intro z hz hzS
                rw [htake] at hz
                rcases List.mem_append.mp hz with hz | hz
                · exact List.mem_append_left _ (hdone z hz hzS)
                · exact List.mem_append_right _ hz
            · refine b_nil (b_nil ?_)
              refine ⟨F3, M3, _, rfl, e11.trans e12, e12.lst hf11, e12.lst hr11, e12.lst hm11, e12.lst hn11, bm11, hRF11, hMF11, hl11, fun z hz hzS => ?_⟩
              rw [htake] at hz
              rcases List.mem_append.mp hz with hz | hz
              · exact hdone z hz hzS
              · have e : z = y := by simpa using hz
                subst e
                have : z ∈ S → z ∈ F3 := by simpa using hq2
                exact this hzS
          · rintro σ' H11 ⟨F3, M3, o8, rfl, e11, hf11, hr11, hm11, hn11, bm11, hRF11, hMF11, hl11, hdone⟩
            rw [len_nd, List.take_length] at hdone
            refine b_nil ⟨F3, M3, _, _, rfl, e11, hf11, hr11, hm11, bm11.less (fun z hz h1 h2 y hy hyS => ?_), hRF11, hMF11, hl11⟩
            rcases h1 with h1 | h1
            · rw [hdrop] at h1
              rcases List.mem_cons.mp h1 with h1 | h1
              · subst h1
                exact hdone y hy hyS
              · exact absurd (.inl h1) h2
            · exact absurd (.inr h1) h2
        · rintro σ' H9 ⟨F2, M, o7, o8, rfl, e9, hf9, hr9, hm9, bm9, hRF9, hMF9, hl9⟩
          rw [len_nd] at bm9
          refine b_set 5 (R := isr (.ref pm)) (v_r 6 rfl) fun v H10 e10 rv => b_nil ?_
          rw [show v = .ref pm from rv]
          have hlen2 := bm9.len
          refine ⟨2 * (S.length - F2.length) + (if M = [] then 0 else 1), ?_, F2, M, pm, _, _, _, rfl, e9.trans e10, nmf, e10.lst hf9, e10.lst hm9, bm9.less (fun z _ h1 h2 => ?_), hMF9, rfl⟩
          · rw [if_neg hRne]
            by_cases hM : M = []
            · subst hM
              rw [if_pos rfl]
              simp at hl9
              omega
            · have : 0 < M.length := List.length_pos_iff.mpr hM
              rw [if_neg hM]
              omega
          · rcases h1 with h1 | h1
            · simp at h1
            · exact absurd h1 h2
      · -- the end
        have hR0 : R = [] := by simpa using hz2
        subst hR0
        refine b_retd (v_cmp op_eq (v_lenL B.len (v_l 4 rfl (SqL.of (e6.lst hpf)) (tds_ints F'))) (v_lenL B.len (v_l 2 rfl ((e5.trans e6).sql hps) (tds_ints S))) (q := F'.length == S.length) (fun _ _ _ x y _ _ _ r1 r2 Q q => ?_) (nomark _)) fun v H' e r => hq v H' ((e5.trans e6).trans e) ?_
        · rw [int_inv r1, int_inv r2]
          refine ⟨rfl, ?_⟩
          have : decide (V.int ((F'.map SL.nd).length : Int) = V.int ((S.map SL.nd).length : Int)) = (F'.length == S.length) := by
            rw [len_nd, len_nd, Bool.eq_iff_iff, decide_eq_true_iff, beq_iff_eq]
            exact ⟨fun z => Int.ofNat.inj (V.int.inj z), fun z => by rw [z]⟩
          rw [this]
          exact q
        · rw [hang_found hL hnd hS hne (bm.less fun z _ h1 _ => by cases h1)] at r
          exact r
end
end SL

set_option maxHeartbeats 4000000
/-! any and all in a def; are_cells -/
namespace SL
open PySem PySem.Spec PyProof.Rows L2 GxR GX StX

theorem PE.ok {X : Cx} {e : Expr} {t : TE} (h : X.Ok → PE X e t) : PE X e t := ⟨fun pins s σ H Q I hw => (h I.ok).run pins s σ H Q I hw⟩
def genC (scope : Scope) (x : Str) : Bool := (scope.kind == .function) && !scope.isCoroutine && scope.names.all (fun y => y.2 != .cell) && (scope.names.lookup (".0" : Str) == some .local) && (scope.names.lookup x == some .local)
theorem genS_ok {X : Cx} {scope : Scope} {x : Str} {own : List (Str × Nat)} (h : genC scope x = true) (ok : BlkOk X.N X.env.scope scope own) (hX : X.Ok) : GenS X.env scope x := by
  unfold genC at h
  rw [Bool.and_eq_true, Bool.and_eq_true, Bool.and_eq_true, Bool.and_eq_true] at h
  obtain ⟨⟨⟨⟨h1, h2⟩, h3⟩, h4⟩, h5⟩ := h
  refine ⟨by simpa using h1, by simpa using h2, fun y hy => ?_, by simpa using h4, by simpa using h5, fun y hy e => ?_⟩
  · have := List.all_eq_true.mp h3 y hy
    simpa using this
  · rcases ok.free y hy e with k | k
    · exact hX.has _ (.inl k)
    · exact hX.has _ (.inr k)
section
variable {X : Cx} {σ : L2.St} {H : Hp} {elt iter : Expr} {x : Str} {px p pos gpos : Pos} {scope : Scope} {wi : TI} {c P : Addr} {k m : Nat} {y : Nat → V → Hp → Prop} {b : Nat → Bool}
theorem w_all (ix : Nat) (hi : PI X (.Name x px) iter wi) (hwi : ∀ H1, Ext H H1 → ∀ R : It → Hp → Prop, (∀ J H2, Ext H1 H2 → Ylds J H2 m y → R J H2) → wi σ H1 R)
    (hr : Room (k + 1) X.A) (B : Bt X.mg) (TB : TabB X.base X.mg c P) (hcode : X.env.code = .ref c) (hT : TabG H P)
    (hel : ∀ i v H', i < m → Ext H H' → y i v H' → ∀ A' s H0 C code fp, Room k A' → EV (ggx X A' s H0 C code fp scope) (σ.set ix (some v)) H' elt (isd X (.bl (b i))))
    (hg : Gl X "all" := by rfl) (hcalm : X.calm = true := by rfl) (ok : BlkOk X.N X.env.scope scope [(x, ix)] := by exact blkOk_by (by rfl)) (hN : X.N.Nodup := by assumption) (hgc : genC scope x = true := by rfl)
    (hs : ∀ v, genFold iter X.env v = pure v := by intro _; rfl)
    (he : starEach [.GeneratorExp elt [⟨.Name x px, iter, [], 0⟩] scope gpos] X.env = (false, eval (.GeneratorExp elt [⟨.Name x px, iter, [], 0⟩] scope gpos) X.env) :: starEach [] X.env := by rfl) :
    EV X σ H (.Call (.Name "all" p) [.GeneratorExp elt [⟨.Name x px, iter, [], 0⟩] scope gpos] [] pos) (isd X (.bl ((List.range m).all b))) :=
  EV.by (PE.ok fun hX => pe_allX (te := fun σ' H' Q' => ∀ A' s H0 C code fp, Room k A' → WE (ggx X A' s H0 C code fp scope) elt σ' H' Q') hr hg B.all B.ball TB hcode hcalm (genS_ok hgc ok hX) ok hN hi (fun A' s H0 C code fp hr' => ⟨fun pins s' σ' H' Q I h => h A' s H0 C code fp hr' pins s' I⟩) hs he)
    (by
      have h := gen_turns true hT hwi hel
      rw [all_if] at h
      exact h)
theorem w_any (ix : Nat) (hi : PI X (.Name x px) iter wi) (hwi : ∀ H1, Ext H H1 → ∀ R : It → Hp → Prop, (∀ J H2, Ext H1 H2 → Ylds J H2 m y → R J H2) → wi σ H1 R)
    (hr : Room (k + 1) X.A) (B : Bt X.mg) (TB : TabB X.base X.mg c P) (hcode : X.env.code = .ref c) (hT : TabG H P)
    (hel : ∀ i v H', i < m → Ext H H' → y i v H' → ∀ A' s H0 C code fp, Room k A' → EV (ggx X A' s H0 C code fp scope) (σ.set ix (some v)) H' elt (isd X (.bl (b i))))
    (hg : Gl X "any" := by rfl) (hcalm : X.calm = true := by rfl) (ok : BlkOk X.N X.env.scope scope [(x, ix)] := by exact blkOk_by (by rfl)) (hN : X.N.Nodup := by assumption) (hgc : genC scope x = true := by rfl)
    (hs : ∀ v, genFold iter X.env v = pure v := by intro _; rfl)
    (he : starEach [.GeneratorExp elt [⟨.Name x px, iter, [], 0⟩] scope gpos] X.env = (false, eval (.GeneratorExp elt [⟨.Name x px, iter, [], 0⟩] scope gpos) X.env) :: starEach [] X.env := by rfl) :
    EV X σ H (.Call (.Name "any" p) [.GeneratorExp elt [⟨.Name x px, iter, [], 0⟩] scope gpos] [] pos) (isd X (.bl ((List.range m).any b))) :=
  EV.by (PE.ok fun hX => pe_anyX (te := fun σ' H' Q' => ∀ A' s H0 C code fp, Room k A' → WE (ggx X A' s H0 C code fp scope) elt σ' H' Q') hr hg B.any TB hcode hcalm (genS_ok hgc ok hX) ok hN hi (fun A' s H0 C code fp hr' => ⟨fun pins s' σ' H' Q I h => h A' s H0 C code fp hr' pins s' I⟩) hs he)
    (by
      have h := gen_turns false hT hwi hel
      rw [any_if] at h
      exact h)
end

section
variable {X : Cx} {σ : L2.St} {H : Hp} {a b : Expr} {pos : Pos}
theorem dec_eqn {m n : Nat} : decide (V.int (m : Int) = V.int (n : Int)) = (m == n) := by
  rw [Bool.eq_iff_iff, decide_eq_true_iff, beq_iff_eq]
  exact ⟨fun z => Int.ofNat.inj (V.int.inj z), fun z => by rw [z]⟩
theorem v_eqn {m n : Nat} (ha : EV X σ H a (isd X (nd m))) (hb : EV X σ H b (isd X (nd n))) : EV X σ H (.Compare a [.Eq] [b] pos) (isd X (.bl (m == n))) :=
  v_cmp op_eq ha hb (fun _ _ _ x y _ _ _ r1 r2 Q q => by
    rw [int_inv r1, int_inv r2]
    exact ⟨rfl, by rw [dec_eqn]; exact q⟩) (nomark _)
theorem v_gtn {m n : Nat} (ha : EV X σ H a (isd X (nd m))) (hb : EV X σ H b (isd X (nd n))) : EV X σ H (.Compare a [.Gt] [b] pos) (isd X (.bl (decide (n < m)))) :=
  v_cmp op_gt ha hb (fun _ _ _ x y _ _ _ r1 r2 Q q => ⟨m, n, int_inv r1, int_inv r2, by
    have e : decide ((n : Int) < (m : Int)) = decide (n < m) := by simp
    show Q (.bl (decide ((n : Int) < (m : Int)))) _
    rw [e]
    exact q⟩) (nomark _)
theorem v_globn {x : Str} {n : Nat} (hm : ∃ t, X.mg x = some (.int (n : Int) t)) (hg : Gl X x := by rfl) (hd : (x == ("__debug__" : Str)) = false := by decide) : EV X σ H (.Name x pos) (isd X (nd n)) :=
  let ⟨_, h⟩ := hm; v_glob h hg hd
end

/-! ### a def whose code object's place is known -/
structure FunC (K : PySem.W.Frag) (x qual : Str) (st : Stmt) (f : Addr) (fd : FuncData) (c : Addr) : Prop where
  ex : ∃ (oc : Value) (od : Option Addr) (kV doc pm : Value) (an : Option Addr) (ct : Value) (osl : Array (Option Value)),
    fd = PySem.W.fnOf x qual (defArgs st) (defBody st) (defScope st) .none kV doc pm an (.ref c) ct ∧ K.lookup f = some ⟨oc, od, .func fd, osl⟩ ∧ PySem.W.codeIn K (.ref c) qual = true
  kp : PySem.W.keepIn K (.ref f) = true
theorem FunC.fun_ {K : PySem.W.Frag} {x qual : Str} {st : Stmt} {f c : Addr} {fd : FuncData} (F : FunC K x qual st f fd c) : Fun K x qual st f fd := by
  obtain ⟨oc, od, kV, doc, pm, an, ct, osl, h⟩ := F.ex
  exact ⟨⟨oc, od, kV, doc, pm, an, .ref c, ct, osl, h⟩, F.kp⟩
section
variable {P : Program} {w : World} {K : PySem.W.Frag} {mg : Str → Option Value} {base : Heap} {x qual : Str} {st : Stmt} {f c : Addr} {fd : FuncData} {N ps : List Str} {k : Nat}
theorem okRC {T : List Addr} {S' : List AD → AD → Prop} (F : FunC K x qual st f fd c) (S : FnScope N ps (defScope st)) (len : ∀ as r, S' as r → as.length = ps.length)
    (hbody : ∀ (A : Around) (outer : List Env) (s : Shared) (H : Hp) (vs : List V) (Q : VK) (E : XK) (as : List AD) (r : AD), Room k (A.deeper (envOfC qual (defScope st) s.heap.objs.size f (.ref c))) → Tabs T H → ARs K H vs as → S' as r →
      (∀ v H', Ext H H' → RR K H v H' r → Q v H') → WB (cxOf CX0 P w K mg base N qual (defScope st) f (.ref c) A outer s H E).nox (defBody st) { nx := fun _ H' => Q .non H', rt := Q } (start N vs) H) : FnOk P w K mg base CX0 (k + 1) f fd ps (spR K T S') := by
  obtain ⟨oc, od, kV, doc, pm, an, ct, osl, rfl, lk, hcd⟩ := F.ex
  refine fn_of lk hcd S (fun vs H Q E h => ?_) fun A outer s H vs Q E hr hsp => ?_
  · obtain ⟨_, as, r, ha, hs, _⟩ := h
    rw [ARs.length ha]
    exact len as r hs
  · obtain ⟨hT, as, r, ha, hs, hq⟩ := hsp
    exact ⟨_, pwb.nox, hbody A outer s H vs Q E as r hr hT ha hs hq⟩
end
end SL

/-! plain: maps, takings, keys -/
namespace SL
/-- a map of A arms of L cells, k lands, each of them in one piece -/
structure Wf (A L k : Nat) (cs : List Nat) : Prop where
  A3 : 3 ≤ A
  A4 : A ≤ 4
  L1 : 1 ≤ L
  L3 : L ≤ 3
  k2 : 2 ≤ k
  kL : k ≤ L + 1
  len : cs.length = 1 + A * L
  lt : ∀ x, x ∈ cs → x < k
  hang : ∀ x, x < k → hangF L (heldF cs x) = true
def madeF (A L : Nat) (cs : List Nat) (l c : Nat) : Bool := (cs.getD c 0 != l) && (nearF A L c).any (fun o => cs.getD o 0 == l) && hangF L ((heldF cs (cs.getD c 0)).filter (fun o => o != c))
def takF (A L k : Nat) (cs : List Nat) : List (Nat × Nat) := (List.range k).flatMap fun l => ((List.range cs.length).filter fun c => madeF A L cs l c).map fun c => (l, c)
def rowF (L : Nat) (cs : List Nat) (a : Nat) : List Nat := (cs.drop (1 + a * L)).take L
def ordF (h : Nat) (row : List Nat) : List Nat := row.foldl (fun acc x => if x ≠ h ∧ x ∉ acc then acc ++ [x] else acc) []
def hubF (cs : List Nat) : Nat := cs.getD 0 0
def ordsF (A L : Nat) (cs : List Nat) : List (List Nat) := (List.range A).map fun a => ordF (hubF cs) (rowF L cs a)
def bareF (A L : Nat) (cs : List Nat) : Nat := ((List.range A).filter fun a => (rowF L cs a).all (fun x => x == hubF cs)).length
def tipsF (A L : Nat) (cs : List Nat) : List Nat := (List.range A).map fun a => cs.getD ((a + 1) * L) 0

theorem Wf.AL {A L k : Nat} {cs : List Nat} (w : Wf A L k cs) : A * L ≤ 12 := Nat.mul_le_mul w.A4 w.L3
theorem Wf.held {A L k : Nat} {cs : List Nat} (w : Wf A L k cs) {x : Nat} (h : x < k) : ∃ c, c < cs.length ∧ cs.getD c 0 = x := by
  have h1 := w.hang x h
  unfold hangF at h1
  cases e : heldF cs x with
  | nil => rw [e] at h1; simp at h1
  | cons c r =>
    have hc : c ∈ heldF cs x := by rw [e]; simp
    unfold heldF at hc
    obtain ⟨h2, h3⟩ := List.mem_filter.mp hc
    exact ⟨c, List.mem_range.mp h2, by simpa using h3⟩
theorem getD_mem {cs : List Nat} {c : Nat} (h : c < cs.length) : cs.getD c 0 ∈ cs := by
  rw [List.getD_eq_getElem?_getD, List.getElem?_eq_getElem h]
  exact List.getElem_mem h
theorem getD_get {cs : List Nat} {c : Nat} (h : c < cs.length) : cs[c]? = some (cs.getD c 0) := by
  rw [List.getD_eq_getElem?_getD, List.getElem?_eq_getElem h]
  rfl
theorem Wf.at_lt {A L k : Nat} {cs : List Nat} (w : Wf A L k cs) {c : Nat} (h : c < cs.length) : cs.getD c 0 < k := w.lt _ (getD_mem h)
theorem held_nodup (cs : List Nat) (x : Nat) : (heldF cs x).Nodup := List.nodup_range.filter _
theorem held_mem {cs : List Nat} {x c : Nat} : c ∈ heldF cs x ↔ c < cs.length ∧ cs.getD c 0 = x := by
  unfold heldF
  rw [List.mem_filter, List.mem_range]
  simp
theorem row_len {A L : Nat} {cs : List Nat} (h : cs.length = 1 + A * L) {a : Nat} (ha : a < A) : (rowF L cs a).length = L := by
  unfold rowF
  rw [List.length_take, List.length_drop, h]
  have : (a + 1) * L ≤ A * L := Nat.mul_le_mul_right L ha
  rw [Nat.add_mul] at this
  omega
theorem row_get {A L : Nat} {cs : List Nat} (h : cs.length = 1 + A * L) {a i : Nat} (ha : a < A) (hi : i < L) : (rowF L cs a)[i]? = some (cs.getD (1 + a * L + i) 0) := by
  unfold rowF
  rw [List.getElem?_take, if_pos hi, List.getElem?_drop]
  refine getD_get ?_
  have : (a + 1) * L ≤ A * L := Nat.mul_le_mul_right L ha
  rw [Nat.add_mul] at this
  omega
end SL

set_option maxHeartbeats 4000000
/-! walks: are_cells .. taken -/
namespace SL
open PySem PySem.Spec PyProof.Rows L2 GxR GX StX

theorem Wf.max {A L k : Nat} {cs : List Nat} (w : Wf A L k cs) : maxl cs + 1 = k := by
  have hne : cs ≠ [] := fun z => by
    have := w.len
    rw [z] at this
    simp at this
    omega
  have h1 := w.lt _ (maxl_mem hne)
  obtain ⟨c, hc, e⟩ := w.held (x := k - 1) (by have := w.k2; omega)
  have h2 := maxl_le (getD_mem hc)
  have := w.k2
  omega
theorem Wf.ne {A L k : Nat} {cs : List Nat} (w : Wf A L k cs) : cs ≠ [] := fun z => by
  have := w.len
  rw [z] at this
  simp at this
  omega
theorem Wf.divL {A L k : Nat} {cs : List Nat} (w : Wf A L k cs) : (cs.length - 1) / A = L := by
  rw [w.len, Nat.add_sub_cancel_left, Nat.mul_div_cancel_left L (by have := w.A3; omega)]
theorem cut_mid (l : List Nat) {i j : Nat} (h1 : i ≤ j) (h2 : j ≤ l.length) : cutD (l.map nd) (some (i : Int)) (some (j : Int)) = ((l.drop i).take (j - i)).map nd := by
  unfold cutD
  rw [HT.sIx_nat, HT.sIx_nat, List.length_map, Nat.min_eq_left h2, Nat.min_eq_left (Nat.le_trans h1 h2), List.map_take, List.map_drop]
theorem cut_to (l : List Nat) {j : Nat} (h2 : j ≤ l.length) : cutD (l.map nd) none (some (j : Int)) = (l.take j).map nd := by
  unfold cutD
  rw [HT.sIx_nat, HT.sIx_none, List.length_map, Nat.min_eq_left h2, Nat.sub_zero, List.drop_zero, List.map_take]
theorem cut_from (l : List Nat) {i : Nat} (h2 : i ≤ l.length) : cutD (l.map nd) (some (i : Int)) none = (l.drop i).map nd := by
  unfold cutD
  rw [HT.sIx_nat, HT.sIx_none, List.length_map, Nat.min_eq_left h2, List.map_drop]
  refine List.take_of_length_le ?_
  simp
section
variable {P : Program} {w : World} {K : PySem.W.Frag} {mg : Str → Option Value} {base : Heap}
def arecS (as : List AD) (r : AD) : Prop := ∃ (A L k : Nat) (cs : List Nat), as = [.d (nd A), .d (lnd cs)] ∧ Wf A L k cs ∧ r = .d (.bl true)
theorem ok_are_cells {f c Pt : Addr} {fd : FuncData} {T : List Addr} (F : FunC K "are_cells" "are_cells" t_are_cells f fd c) (B : Bt mg) (TB : TabB base mg c Pt) (hPt : Pt ∈ T) (I : Clb P w K mg base 1 "is_in" (spR K T isinS)) (N : Clb P w K mg base 2 "hangs" (spR K T hangsS))
    (Hd : Clb P w K mg base 1 "held" (spR K T heldS)) : Ok0 P w K mg base 4 f fd p_are_cells T arecS := by
  refine okRC F sc_are_cells (fun as r h => ?_) (fun Ar outer s H vs Q E as r hr hT ha hs hq => ?_)
  · obtain ⟨A, L, k, cs, rfl, _⟩ := h
    rfl
  · obtain ⟨A, L, k, cs, rfl, W, rfl⟩ := hs
    have nd := sc_are_cells.nd
    obtain ⟨a, b, rfl, a1, a2⟩ := arsd2 ha
    cases a1
    have hAL := W.AL
    have hA3 := W.A3
    have hA4 := W.A4
    have hL1 := W.L1
    have hL3 := W.L3
    have hlen := W.len
    have hle : A ≤ A * L := Nat.le_mul_of_pos_right A (by omega)
    have hcsl : cs.length ≤ 13 := by omega
    have vlen : ∀ {H' : Hp} {σ' : L2.St} {pp qq rr : Pos}, Ext H H' → σ'[1]? = some (some b) → EV (cxOf CX0 P w K mg base n_are_cells "are_cells" (defScope t_are_cells) f (.ref c) Ar outer s H E).nox σ' H' (.Call (.Name "len" pp) [.Name "cells" qq] [] rr) (isd _ (SL.nd cs.length)) := fun e h =>
      (v_lenT B.len (v_n 1 h (a2.mono e.tk))).to (by rw [len_nd]; rfl)
    refine b_if (q := false) (t_w ?_) (fun hz H1 e1 => by cases hz) (fun hz H1 e1 => b_nil ?_)
    · refine (w_or (q := false) (r := false) ((t_ltn (vlen (Ext.refl _) rfl) (v_addn (v_n 0 rfl (.int _)) (v_num (n := 1)))).to (by simp; omega)) fun _ => w_or (q := false) (r := false) ((t_i (v_modn (v_subn (vlen (Ext.refl _) rfl) (v_num (n := 1)) (by omega)) (v_n 0 rfl (.int _)) (by omega))).to ?_) fun _ =>
        w_or1 ((t_gtn (v_fdivn (v_subn (vlen (Ext.refl _) rfl) (v_num (n := 1)) (by omega)) (v_n 0 rfl (.int _)) (by omega) (by omega)) (v_globn (n := 4) B.mostL)).to ?_))
      · rw [hlen, Nat.add_sub_cancel_left, Nat.mul_mod_right]
        rfl
      · rw [W.divL]
        simp; omega
    refine b_set 2 (v_fdivn (v_subn (vlen e1 rfl) (v_num (n := 1)) (by omega)) (v_n 0 rfl (.int _)) (by omega) (by omega)) fun v H2 e2 r2 => ?_
    have r2 := int_inv r2
    rw [W.divL] at r2
    subst r2
    have e12 := e1.trans e2
    refine b_if (q := false) (t_not (q := true) (t_b ((w_all 4 (k := 2) (b := fun _ => true) (pi_tup pwe) (y_tup (ds := cs.map SL.nd) (v_n 1 rfl (a2.mono e12.tk))) hr B TB rfl (e12.tabg (hT Pt hPt)) fun i v H' hi e' hy A' s' H0 C code fp hr' => ?_).to (by simp)))) (fun hz H3 e3 => by cases hz) (fun hz H3 e3 => b_nil ?_)
    · rw [len_nd] at hi
      have hv := hy _ (map_get (getD_get hi))
      have hv := int_inv hv
      subst hv
      have hlt := W.at_lt hi
      have hkL := W.kL
      refine (v_cl I hr' (hT.ext (e12.trans e')) (a_d (v_n 4 rfl (.int _)) (a_d (v_num (n := 0)) (a_d (v_n 2 rfl (.int _)) a_nil))) ⟨_, 0, L, rfl, rfl⟩).to ?_
      rw [decide_eq_true (show 0 ≤ cs.getD i 0 by omega), decide_eq_true (show cs.getD i 0 ≤ L by omega)]
      rfl
    have e13 := e12.trans e3
    refine b_set 3 (v_addn (v_maxT rfl B.max (v_n 1 rfl (a2.mono e13.tk)) W.ne) (v_num (n := 1))) fun v H4 e4 r4 => ?_
    have r4 := int_inv r4
    rw [W.max] at r4
    subst r4
    have e14 := e13.trans e4
    refine b_retd ((v_and (q := true) (r := true) ((v_gtn (v_n 3 rfl (.int _)) (v_num (n := 1))).to (by rw [decide_eq_true (show 1 < k from W.k2)])) fun _ => v_and1 ((w_all 5 (k := 2) (m := k) (b := fun _ => true) (pi_range1 (by rfl) B.range (pa_cons pwe pa_nil)) (y_range (v_n 3 rfl (.int _)) (by have := W.kL; omega)) hr B TB rfl (e14.tabg (hT Pt hPt))
      fun i v H' hi e' hy A' s' H0 C code fp hr' => ?_).to (by simp)))) fun v H' e r => hq v H' (e14.trans e) r
    have hy : v = nv i := hy
    subst hy
    have hT' := hT.ext (e14.trans e')
    refine (v_cl N hr' hT' (a_d (v_n 0 rfl (.int _)) (a_d (v_n 1 rfl (a2.mono (e14.trans e').tk)) (a_l (ds := (heldF cs i).map SL.nd) (EV.rd (v_clL Hd hr' hT' (a_d (v_n 1 rfl (a2.mono (e14.trans e').tk)) (a_d (v_n 5 rfl (.int _)) a_nil)) ⟨cs, i, rfl, by omega, rfl⟩)) a_nil)))
      ⟨A, L, cs, heldF cs i, rfl, hlen, by omega, hA4, hL1, by omega, held_nodup _ _, fun c hc => ?_, rfl⟩).to ?_
    · rw [W.hang i hi]
    · rw [← hlen]
      exact (held_mem.mp hc).1

def ismS (as : List AD) (r : AD) : Prop := ∃ (A L k : Nat) (cs : List Nat), as = [.d (chd (A, cs))] ∧ Wf A L k cs ∧ r = .d (.bl true)
theorem ok_is_map {f : Addr} {fd : FuncData} {T : List Addr} (F : Fun K "is_map" "is_map" t_is_map f fd) (B : Bt mg) (I : Clb P w K mg base 1 "is_in" (spR K T isinS)) (N : Clb P w K mg base 4 "are_cells" (spR K T arecS)) : Ok0 P w K mg base 5 f fd p_is_map T ismS := by
  refine okR F sc_is_map (fun as r h => ?_) (fun cdv Ar outer s H vs Q E as r hcd hr hT ha hs hq => ?_)
  · obtain ⟨A, L, k, cs, rfl, _⟩ := h
    rfl
  · obtain ⟨A, L, k, cs, rfl, W, rfl⟩ := hs
    have nd := sc_is_map.nd
    obtain ⟨a, rfl, a1⟩ := arsd1 ha
    have hA3 := W.A3
    have hA4 := W.A4
    refine b_if (q := false) (t_w ?_) (fun hz H1 e1 => by cases hz) (fun hz H1 e1 => b_nil ?_)
    · refine (w_or (q := false) (r := false) ((t_not (t_b (v_isi (q := true) B.isin B.tuple boot_tuple (v_n 0 rfl a1) (by rfl)))).to rfl) fun _ => w_or (q := false) (r := false) ((t_nen (m := 2) (n := 2) ((v_lenT (ds := [SL.nd A, lnd cs]) B.len (v_n 0 rfl a1)).to rfl) (v_num (n := 2))).to rfl) fun _ =>
        w_or1 ((t_not (t_b (v_cl I hr hT (a_d (v_ixT (n := 0) (v_n 0 rfl a1) (v_num (n := 0)) rfl) (a_d (v_globn (n := 3) B.leastA) (a_d (v_globn (n := 4) B.mostA) a_nil))) ⟨A, 3, 4, rfl, rfl⟩))).to ?_))
      rw [decide_eq_true hA3, decide_eq_true hA4]
      rfl
    refine b_retd ((v_and (q := true) (r := true) (v_isi B.isin B.tuple boot_tuple (v_ixT (n := 1) (v_n 0 rfl (a1.mono e1.tk)) (v_num (n := 1)) rfl) (by rfl)) fun _ => v_and1 (v_cl N hr (hT.ext e1) (a_d (v_ixT (n := 0) (v_n 0 rfl (a1.mono e1.tk)) (v_num (n := 0)) rfl) (a_d (v_ixT (n := 1) (v_n 0 rfl (a1.mono e1.tk)) (v_num (n := 1)) rfl) a_nil)) ⟨A, L, k, cs, rfl, W, rfl⟩))) fun v H' e r => hq v H' (e1.trans e) r

def nonS (as : List AD) (r : AD) : Prop := ∃ (A L k : Nat) (cs : List Nat), as = [.d (chd (A, cs))] ∧ Wf A L k cs ∧ r = .d .non
theorem ok_need_map {f : Addr} {fd : FuncData} {T : List Addr} (F : Fun K "need_map" "need_map" t_need_map f fd) (I : Clb P w K mg base 5 "is_map" (spR K T ismS)) : Ok0 P w K mg base 6 f fd p_need_map T nonS := by
  refine okR F sc_need_map (fun as r h => ?_) (fun cdv Ar outer s H vs Q E as r hcd hr hT ha hs hq => ?_)
  · obtain ⟨A, L, k, cs, rfl, _⟩ := h
    rfl
  · obtain ⟨A, L, k, cs, rfl, W, rfl⟩ := hs
    have nd := sc_need_map.nd
    obtain ⟨a, rfl, a1⟩ := arsd1 ha
    refine b_if (q := false) ((t_not (t_b (v_cl I hr hT (a_d (v_n 0 rfl a1) a_nil) ⟨A, L, k, cs, rfl, W, rfl⟩))).to rfl) (fun hz H1 e1 => by cases hz) (fun hz H1 e1 => b_nil (b_nil (hq _ H1 e1 .non)))

def landsS (as : List AD) (r : AD) : Prop := ∃ (A L k : Nat) (cs : List Nat), as = [.d (chd (A, cs))] ∧ Wf A L k cs ∧ r = .d (nd k)
theorem ok_lands_of {f : Addr} {fd : FuncData} {T : List Addr} (F : Fun K "lands_of" "lands_of" t_lands_of f fd) (B : Bt mg) : Ok0 P w K mg base 1 f fd p_lands_of T landsS := by
  refine okR F sc_lands_of (fun as r h => ?_) (fun cdv Ar outer s H vs Q E as r hcd hr hT ha hs hq => ?_)
  · obtain ⟨A, L, k, cs, rfl, _⟩ := h
    rfl
  · obtain ⟨A, L, k, cs, rfl, W, rfl⟩ := hs
    have nd := sc_lands_of.nd
    obtain ⟨a, rfl, a1⟩ := arsd1 ha
    exact b_retd ((v_addn (v_maxT rfl B.max (v_ixT (n := 1) (v_n 0 rfl a1) (v_num (n := 1)) rfl) W.ne) (v_num (n := 1))).to (by rw [W.max])) fun v H' e r => hq v H' e r

def outS (as : List AD) (r : AD) : Prop := ∃ (A L k : Nat) (cs : List Nat) (a : Nat), as = [.d (chd (A, cs)), .d (nd a)] ∧ Wf A L k cs ∧ a < A ∧ r = .l ((rowF L cs a).map nd)
theorem ok_outward {f : Addr} {fd : FuncData} {T : List Addr} (F : Fun K "outward" "outward" t_outward f fd) (B : Bt mg) (I : Clb P w K mg base 1 "length_of" (spR K T lofS)) : Ok0 P w K mg base 2 f fd p_outward T outS := by
  refine okR F sc_outward (fun as r h => ?_) (fun cdv Ar outer s H vs Q E as r hcd hr hT ha hs hq => ?_)
  · obtain ⟨A, L, k, cs, x, rfl, _⟩ := h
    rfl
  · obtain ⟨A, L, k, cs, x, rfl, W, hx, rfl⟩ := hs
    have nd := sc_outward.nd
    obtain ⟨a, b, rfl, a1, a2⟩ := arsd2 ha
    cases a2
    have hA3 := W.A3
    have hA4 := W.A4
    have hlen := W.len
    refine b_set 2 (v_cl I hr hT (a_d (v_n 0 rfl a1) a_nil) ⟨(A, cs), rfl, by show 0 < A; omega, by show A ≤ 1000; omega, by show 0 < cs.length; omega, rfl⟩) fun v H1 e1 r1 => ?_
    have r1 := int_inv (r1 : TD _ _ _ (.int _))
    have hd : (cs.length - 1) / A = L := W.divL
    have r1 : v = nv L := by rw [r1, ← hd]; rfl
    subst r1
    have h1 : (x + 1) * L ≤ A * L := Nat.mul_le_mul_right L hx
    have h2 : (x + 1) * L = x * L + L := by rw [Nat.add_mul, Nat.one_mul]
    refine b_retl (v_toLst B.list ((v_sliceT (v_ixT (n := 1) (v_n 0 rfl (a1.mono e1.tk)) (v_num (n := 1)) rfl) (o_some (v_addn (v_num (n := 1)) (v_muln (v_n 1 rfl (.int _)) (v_n 2 rfl (.int _)) (by omega)))) (o_some (v_addn (v_num (n := 1)) (v_muln (v_addn (v_n 1 rfl (.int _)) (v_num (n := 1))) (v_n 2 rfl (.int _)) (by omega))))).to (show _ = Dat.tup ((rowF L cs x).map SL.nd) from ?_))) fun v H' e r => hq v H' (e1.trans e) (r.ext e1)
    rw [show cutD (cs.map SL.nd) _ _ = _ from cut_mid cs (i := 1 + x * L) (j := 1 + (x + 1) * L) (by omega) (by omega)]
    unfold rowF
    congr 3
    omega

def ordS (as : List AD) (r : AD) : Prop := ∃ (A L k : Nat) (cs : List Nat) (a : Nat), as = [.d (chd (A, cs)), .d (nd a)] ∧ Wf A L k cs ∧ a < A ∧ r = .d (lnd (ordF (hubF cs) (rowF L cs a)))
theorem ord_step (h : Nat) (l : List Nat) {i x : Nat} (e : l[i]? = some x) : ordF h (l.take (i + 1)) = (if x ≠ h ∧ x ∉ ordF h (l.take i) then ordF h (l.take i) ++ [x] else ordF h (l.take i)) := by
  rw [List.take_add_one, e]
  unfold ordF
  rw [List.foldl_append]
  rfl
theorem ord_len (h : Nat) (l : List Nat) : (ordF h l).length ≤ l.length := by
  have key : ∀ (l acc : List Nat), (l.foldl (fun acc x => if x ≠ h ∧ x ∉ acc then acc ++ [x] else acc) acc).length ≤ acc.length + l.length := by
    intro l
    induction l with
    | nil => intro acc; simp
    | cons x l ih =>
      intro acc
      rw [List.foldl_cons]
      refine Nat.le_trans (ih _) ?_
      split <;> simp <;> omega
  simpa [ordF] using key l []
theorem ok_order_on {f : Addr} {fd : FuncData} {T : List Addr} (F : Fun K "order_on" "order_on" t_order_on f fd) (B : Bt mg) (I : Clb P w K mg base 2 "outward" (spR K T outS)) : Ok0 P w K mg base 3 f fd p_order_on T ordS := by
  refine okR F sc_order_on (fun as r h => ?_) (fun cdv Ar outer s H vs Q E as r hcd hr hT ha hs hq => ?_)
  · obtain ⟨A, L, k, cs, x, rfl, _⟩ := h
    rfl
  · obtain ⟨A, L, k, cs, x, rfl, W, hx, rfl⟩ := hs
    have nd := sc_order_on.nd
    obtain ⟨a, b, rfl, a1, a2⟩ := arsd2 ha
    cases a2
    have hL3 := W.L3
    have hrl := row_len W.len hx
    have hub : cs[0]? = some (hubF cs) := getD_get (by have := W.len; omega)
    refine b_set 2 (v_lst (ds := []) a_nil (Nat.zero_le _)) fun v H1 e1 ⟨pf, xs, hv, hf0, hf1, hf2⟩ => ?_
    subst hv
    have hf2 := hf2.nil_
    subst hf2
    refine b_forL (ds := (rowF L cs x).map SL.nd) 3 (v_clL I hr (hT.ext e1) (a_d (v_n 0 rfl (a1.mono e1.tk)) (a_d (v_n 1 rfl (.int _)) a_nil)) ⟨A, L, k, cs, x, rfl, W, hx, rfl⟩) fun v H2 e2 ⟨pn, ys, hv, hn0, hn1, hn2⟩ => ?_
    have hn2 := tds_int_inv hn2
    subst hn2
    have nfn : pn ≠ pf := fun z => by
      rw [z, hf1] at hn0
      cases hn0
    refine ⟨pn, _, fun i σ' H' => ∃ o, σ' = [some a, some (nv x), some (.ref pf), o] ∧ Ext H H' ∧ H' pf = some (.lst ((ordF (hubF cs) ((rowF L cs x).take i)).map nv)) ∧ H' pn = some (.lst ((rowF L cs x).map nv)), hv, SqL.of hn1, tds_ints _, ⟨_, rfl, e1.trans e2, e2.lst hf1, hn1⟩, ?_, ?_, ?_⟩
    · rintro i σ' H' ⟨o, _, _, _, h⟩
      exact ⟨SqL.of h, tds_ints _⟩
    · rintro i d v σ' H3 hd hv ⟨o, rfl, e3, hf3, hn3⟩
      obtain ⟨y, hy, rfl⟩ := nd_get hd
      have hv := int_inv hv
      subst hv
      have hol : (ordF (hubF cs) ((rowF L cs x).take i)).length ≤ 3 := by
        have h1 := ord_len (hubF cs) ((rowF L cs x).take i)
        rw [List.length_take, hrl] at h1
        omega
      refine b_if (q := (y != hubF cs) && !decide (y ∈ ordF (hubF cs) ((rowF L cs x).take i))) (t_w (w_and (t_nen (v_n 3 rfl (.int _)) (v_ixT (n := 0) (v_ixT (n := 1) (v_n 0 rfl (a1.mono e3.tk)) (v_num (n := 1)) rfl) (v_num (n := 0)) (map_get hub))) fun _ => w_and1 (t_notInr (v_n 3 rfl (.int _)) (v_l 2 rfl (SqL.of hf3) (tds_ints _))))) (fun hz H4 e4 => ?_) (fun hz H4 e4 => ?_)
      · refine b_app 2 rfl (e4.lst hf3) (v_n 3 rfl (.int _)) (by rw [List.length_map, sizeLine_eq]; omega) fun v H5 e5 rv => b_nil (b_nil ?_)
        have rv := int_inv rv
        subst rv
        refine ⟨_, rfl, ((e3.trans e4).trans e5).mut hf0, ?_, ?_⟩
        · rw [upd_same, ord_step _ _ hy, if_pos (by simpa using hz), List.map_append]
          rfl
        · rw [upd_ne nfn]
          exact (e4.trans e5).lst hn3
      · refine b_nil (b_nil ⟨_, rfl, e3.trans e4, ?_, e4.lst hn3⟩)
        rw [ord_step _ _ hy, if_neg (by simpa using hz)]
        exact e4.lst hf3
    · rintro σ' H3 ⟨o, rfl, e3, hf3, hn3⟩
      rw [len_nd, List.take_length] at hf3
      exact b_retd (v_toTup B.tuple (v_l 2 rfl (SqL.of hf3) (tds_ints _))) fun v H' e r => hq v H' (e3.trans e) r

def ordsS (as : List AD) (r : AD) : Prop := ∃ (A L k : Nat) (cs : List Nat), as = [.d (chd (A, cs))] ∧ Wf A L k cs ∧ r = .d (.tup ((ordsF A L cs).map lnd))
theorem ok_all_orders {f : Addr} {fd : FuncData} {T : List Addr} (F : Fun K "all_orders" "all_orders" t_all_orders f fd) (B : Bt mg) (I : Clb P w K mg base 3 "order_on" (spR K T ordS)) : Ok0 P w K mg base 4 f fd p_all_orders T ordsS := by
  refine okR F sc_all_orders (fun as r h => ?_) (fun cdv Ar outer s H vs Q E as r hcd hr hT ha hs hq => ?_)
  · obtain ⟨A, L, k, cs, rfl, _⟩ := h
    rfl
  · obtain ⟨A, L, k, cs, rfl, W, rfl⟩ := hs
    have nd := sc_all_orders.nd
    obtain ⟨a, rfl, a1⟩ := arsd1 ha
    have hA4 := W.A4
    refine b_retd ((v_toTup B.tuple (EV.rd (v_lcR 1 (q := fun _ => true) (gd := fun i => lnd (ordF (hubF cs) (rowF L cs i))) (v_ixT (n := 0) (v_n 0 rfl a1) (v_num (n := 0)) rfl) (by omega) B.range (fun i H' hi e' s H0 C cl fp => ⟨c_nil, fun _ =>
      v_cl I hr (hT.ext e') (a_d (v_n 0 rfl (a1.mono e'.tk)) (a_d (v_n 1 rfl (.int _)) a_nil)) ⟨A, L, k, cs, i, rfl, W, hi, rfl⟩⟩)))).to ?_) fun v H' e r => hq v H' e r
    rw [filter_all, ordsF, List.map_map]
    rfl

def tknS (as : List AD) (r : AD) : Prop := ∃ (A : Nat) (cs : List Nat) (l c : Nat), as = [.d (chd (A, cs)), .d (tkd (l, c))] ∧ c < cs.length ∧ cs.length ≤ 1000 ∧ r = .d (chd (A, cs.set c l))
theorem set_cut {cs : List Nat} {c l : Nat} (h : c < cs.length) : cs.set c l = cs.take c ++ (l :: cs.drop (c + 1)) := List.set_eq_take_append_cons_drop .. |>.trans (if_pos h)
theorem ok_taken {f : Addr} {fd : FuncData} {T : List Addr} (F : Fun K "taken" "taken" t_taken f fd) : Ok0 P w K mg base 1 f fd p_taken T tknS := by
  refine okR F sc_taken (fun as r h => ?_) (fun cdv Ar outer s H vs Q E as r hcd hr hT ha hs hq => ?_)
  · obtain ⟨A, cs, l, c, rfl, _⟩ := h
    rfl
  · obtain ⟨A, cs, l, c, rfl, hc, hn, rfl⟩ := hs
    have nd := sc_taken.nd
    obtain ⟨a, b, rfl, a1, a2⟩ := arsd2 ha
    refine b_unp 2 3 (v_n 1 rfl a2) fun u v H1 e1 t1 t2 => ?_
    cases t1
    cases t2
    have a1 := a1.mono e1.tk
    refine b_retd (v_tup (ds := [SL.nd A, lnd (cs.set c l)]) (a_d (v_ixT (n := 0) (v_n 0 rfl a1) (v_num (n := 0)) rfl) (a_d ((v_tup (ds := (cs.take c).map SL.nd ++ (SL.nd l :: ((cs.drop (c + 1)).map SL.nd ++ []))) ?_ ?_).to ?_) a_nil)) (by simp [sizeLine_eq])) fun v H' e r => hq v H' (e1.trans e) r
    · rw [List.map_append, List.map_cons, List.map_append]
      refine a_star ((v_sliceT (v_ixT (n := 1) (v_n 0 rfl a1) (v_num (n := 1)) rfl) o_none (o_some (v_n 3 rfl (.int _)))).to (congrArg Dat.tup (cut_to cs (j := c) (by omega)))) (a_d (v_n 2 rfl (.int _)) (a_star ((v_sliceT (v_ixT (n := 1) (v_n 0 rfl a1) (v_num (n := 1)) rfl) (o_some (v_addn (v_n 3 rfl (.int _)) (v_num (n := 1)))) o_none).to (congrArg Dat.tup (cut_from cs (i := c + 1) (by omega)))) a_nil))
    · simp [sizeLine_eq]; omega
    · rw [set_cut hc]
      simp [lnd]
end
end SL

set_option maxHeartbeats 4000000
/-! walks: is_made .. need_two -/
namespace SL
open PySem PySem.Spec PyProof.Rows L2 GxR GX StX

theorem range_any (p : Nat → Bool) (l : List Nat) : (List.range l.length).any (fun i => p (l.getD i 0)) = l.any p := by
  rw [Bool.eq_iff_iff, List.any_eq_true, List.any_eq_true]
  constructor
  · rintro ⟨i, hi, h⟩
    exact ⟨_, getD_mem (List.mem_range.mp hi), h⟩
  · rintro ⟨x, hx, h⟩
    obtain ⟨i, hi, rfl⟩ := List.getElem_of_mem hx
    refine ⟨i, List.mem_range.mpr hi, ?_⟩
    rw [List.getD_eq_getElem?_getD, List.getElem?_eq_getElem hi]
    exact h
theorem range_all (p : Nat → Bool) (l : List Nat) : (List.range l.length).all (fun i => p (l.getD i 0)) = l.all p := by
  rw [Bool.eq_iff_iff, List.all_eq_true, List.all_eq_true]
  constructor
  · intro h x hx
    obtain ⟨i, hi, rfl⟩ := List.getElem_of_mem hx
    have := h i (List.mem_range.mpr hi)
    rw [List.getD_eq_getElem?_getD, List.getElem?_eq_getElem hi] at this
    exact this
  · intro h i hi
    exact h _ (getD_mem (List.mem_range.mp hi))
theorem range_fm {β : Type} (p : Nat → Bool) (g : Nat → β) (l : List Nat) : ((List.range l.length).filter (fun i => p (l.getD i 0))).map (fun i => g (l.getD i 0)) = (l.filter p).map g := by
  have e : l = (List.range l.length).map (fun i => l.getD i 0) := by
    apply List.ext_getElem
    · simp
    · intro i h1 h2
      simp [List.getD_eq_getElem?_getD, List.getElem?_eq_getElem h1]
  conv => rhs; rw [e, List.filter_map, List.map_map]
  rfl
theorem EV.toN {X : Cx} {σ : L2.St} {H : Hp} {e : Expr} {ds es : List Dat} (h : EV X σ H e (isn X ds)) (q : ds = es) : EV X σ H e (isn X es) := q ▸ h
theorem v_neg1 {X : Cx} {σ : L2.St} {H : Hp} {n : Nat} {p q : Pos} : EV X σ H (.UnaryOp .USub (.Constant (.int 1) n p) q) (isd X (.int (-1))) := EV.by (pe_un un_neg pwe) fun H1 e1 Q k => v_int H1 e1 _ fun v H2 e2 r => ⟨1, int_inv r, k _ H2 e2 (.int (-1))⟩
section
variable {X : Cx} {σ : L2.St} {H : Hp} {D : Ends} {rest : List Stmt} {e : Expr} {pos : Pos} {R : RV2}
theorem b_expr (he : EV X σ H e R) (k : ∀ v H', Ext H H' → R H v H' → WB X rest D σ H') (hs : swapsWith e none pos.line X.env = pure false := by rfl) : WB X (.Expr e pos :: rest) D σ H := b_cons (WS.of (ps_expr pwe hs) (he H (Ext.refl _) _ k))
end
section
variable {P : Program} {w : World} {K : PySem.W.Frag} {mg : Str → Option Value} {base : Heap}
def madeS (as : List AD) (r : AD) : Prop := ∃ (A L k : Nat) (cs : List Nat) (l c : Nat), as = [.d (chd (A, cs)), .d (tkd (l, c))] ∧ Wf A L k cs ∧ c < cs.length ∧ r = .d (.bl (madeF A L cs l c))
theorem ok_is_made {f c Pt : Addr} {fd : FuncData} {T : List Addr} (F : FunC K "is_made" "is_made" t_is_made f fd c) (B : Bt mg) (TB : TabB base mg c Pt) (hPt : Pt ∈ T) (N : Clb P w K mg base 1 "near" (spR K T nearS)) (Lo : Clb P w K mg base 1 "length_of" (spR K T lofS)) (Hg : Clb P w K mg base 2 "hangs" (spR K T hangsS))
    (Hd : Clb P w K mg base 1 "held" (spR K T heldS)) : Ok0 P w K mg base 3 f fd p_is_made T madeS := by
  refine okRC F sc_is_made (fun as r h => ?_) (fun Ar outer s H vs Q E as r hr hT ha hs hq => ?_)
  · obtain ⟨A, L, k, cs, l, c, rfl, _⟩ := h
    rfl
  · obtain ⟨A, L, k, cs, l, c', rfl, W, hc, rfl⟩ := hs
    have nd := sc_is_made.nd
    obtain ⟨a, b, rfl, a1, a2⟩ := arsd2 ha
    have hAL := W.AL
    have hA3 := W.A3
    have hA4 := W.A4
    have hL1 := W.L1
    have hL3 := W.L3
    have hlen := W.len
    refine b_unp 3 4 (v_n 1 rfl a2) fun u v H1 e1 t1 t2 => ?_
    cases t1
    cases t2
    have m1 := a1.mono e1.tk
    refine b_set 2 (v_ixT (n := c') (v_ixT (n := 1) (v_n 0 rfl m1) (v_num (n := 1)) rfl) (v_n 4 rfl (.int _)) (map_get (getD_get hc))) fun v H2 e2 r2 => ?_
    have r2 := int_inv r2
    subst r2
    have m2 := m1.mono e2.tk
    have e12 := e1.trans e2
    refine b_if (q := (cs.getD c' 0 == l) || !((nearF A L c').any fun o => cs.getD o 0 == l)) (t_w (w_or (t_eqn (v_n 2 rfl (.int _)) (v_n 3 rfl (.int _))) fun _ => w_or1 (t_not (t_b ((w_any 5 (k := 1) (b := fun i => cs.getD ((nearF A L c').getD i 0) 0 == l) (pi_list pwe)
        (y_list (ds := (nearF A L c').map SL.nd) (EV.rd (v_clL N hr (hT.ext e12) (a_d (v_ixT (n := 0) (v_n 0 rfl m2) (v_num (n := 0)) rfl) (a_d (v_cl Lo hr (hT.ext e12) (a_d (v_n 0 rfl m2) a_nil) ⟨(A, cs), rfl, by show 0 < A; omega, by show A ≤ 1000; omega, by show 0 < cs.length; omega, rfl⟩) (a_d (v_n 4 rfl (.int _)) a_nil))) ⟨A, L, c', by rw [show ((A, cs) : Map).2.length = cs.length from rfl, show ((A, cs) : Map).1 = A from rfl, W.divL]; rfl, by omega, hL1, by omega, by omega, rfl⟩)))
        hr B TB rfl (e12.tabg (hT Pt hPt)) fun i v H' hi e' hy A' s' H0 C code fp hr' => ?_).to ?_))))) (fun hz H3 e3 => ?_) (fun hz H3 e3 => b_nil ?_)
    · rw [len_nd] at hi
      have hg := getD_get hi
      have hv := int_inv (hy _ (map_get hg))
      subst hv
      have hb : (nearF A L c').getD i 0 < cs.length := by
        have hm := getD_mem hi
        revert hm
        generalize (nearF A L c').getD i 0 = y
        intro hm
        unfold nearF at hm
        by_cases h0 : c' = 0
        · rw [if_pos h0] at hm
          obtain ⟨j, hj, rfl⟩ := List.mem_map.mp hm
          have hj := List.mem_range.mp hj
          have : (j + 1) * L ≤ A * L := Nat.mul_le_mul_right L hj
          rw [Nat.add_mul] at this
          omega
        · rw [if_neg h0] at hm
          rcases List.mem_cons.mp hm with hm | hm
          · rw [hm]; split <;> omega
          · by_cases hq : (c' - 1) % L + 1 < L
            · rw [if_pos hq] at hm
              have hm : y = c' + 1 := by simpa using hm
              have h1 := Nat.div_add_mod (c' - 1) L
              have h2 : (c' - 1) / L < A := by
                rw [Nat.div_lt_iff_lt_mul (by omega)]
                omega
              have h3 : L * ((c' - 1) / L + 1) ≤ L * A := Nat.mul_le_mul_left L h2
              rw [Nat.mul_add, Nat.mul_comm L A] at h3
              omega
            · rw [if_neg hq] at hm
              cases hm
      exact v_eqn (v_ixT (n := (nearF A L c').getD i 0) (v_ixT (n := 1) (v_n 0 rfl (m2.mono e'.tk)) (v_num (n := 1)) rfl) (v_n 5 rfl (.int _)) (map_get (getD_get hb))) (v_n 3 rfl (.int _))
    · rw [len_nd]
      exact congrArg Dat.bl (range_any (fun o => cs.getD o 0 == l) (nearF A L c'))
    · refine b_retd v_bl fun v H' e r => hq v H' ((e12.trans e3).trans e) ?_
      have : madeF A L cs l c' = false := by
        unfold madeF
        rw [Bool.or_eq_true] at hz
        rcases hz with h | h
        · rw [show (cs.getD c' 0 != l) = false by simpa using h]
          rfl
        · rw [show ((nearF A L c').any fun o => cs.getD o 0 == l) = false by simpa using h, Bool.and_false]
          rfl
      rw [this]
      exact r
    · have m3 := m2.mono e3.tk
      have e13 := e12.trans e3
      have hT3 := hT.ext e13
      refine b_retd ((v_cl Hg hr hT3 (a_d (v_ixT (n := 0) (v_n 0 rfl m3) (v_num (n := 0)) rfl) (a_d (v_ixT (n := 1) (v_n 0 rfl m3) (v_num (n := 1)) rfl) (a_l (ds := ((heldF cs (cs.getD c' 0)).filter fun o => o != c').map SL.nd) (EV.rd ?_) a_nil)))
        ⟨A, L, cs, (heldF cs (cs.getD c' 0)).filter fun o => o != c', rfl, hlen, by omega, hA4, hL1, by omega, (held_nodup _ _).filter _, fun x hx => ?_, rfl⟩).to ?_) fun v H' e r => hq v H' (e13.trans e) r
      · refine EV.toN (v_lcL 5 (q := fun i => (heldF cs (cs.getD c' 0)).getD i 0 != c') (gd := fun i => SL.nd ((heldF cs (cs.getD c' 0)).getD i 0)) (ds := (heldF cs (cs.getD c' 0)).map SL.nd) (EV.rd (v_clL Hd hr hT3 (a_d (v_ixT (n := 1) (v_n 0 rfl m3) (v_num (n := 1)) rfl) (a_d (v_n 2 rfl (.int _)) a_nil)) ⟨cs, _, rfl, by omega, rfl⟩))
          (by
            rw [len_nd, sizeLine_eq]
            have := nodup_len (S := List.range cs.length) (held_nodup cs (cs.getD c' 0)) fun x hx => List.mem_range.mpr (held_mem.mp hx).1
            rw [List.length_range] at this
            omega) fun i d v H' hd hv e' s' H0 C cl fp => ?_) ?_
        · obtain ⟨y, hy, rfl⟩ := nd_get hd
          have hv := int_inv hv
          subst hv
          have : (heldF cs (cs.getD c' 0)).getD i 0 = y := by
            rw [List.getD_eq_getElem?_getD, hy]; rfl
          rw [this]
          exact ⟨c_one (t_nen (v_n 5 rfl (.int _)) (v_n 4 rfl (.int _))), fun _ => v_n 5 rfl (.int _)⟩
        · rw [len_nd, range_fm (fun o => o != c') SL.nd]
      · congr 1
        unfold madeF
        rw [show (cs.getD c' 0 != l) = true by
          have : (cs.getD c' 0 == l) = false := by
            rw [Bool.or_eq_false_iff] at hz
            exact hz.1
          simp only [bne, this, Bool.not_false], show ((nearF A L c').any fun o => cs.getD o 0 == l) = true by
          rw [Bool.or_eq_false_iff] at hz
          simpa using hz.2]
        simp
      · rw [← hlen]
        exact (held_mem.mp (List.mem_filter.mp hx).1).1

def allS (as : List AD) (r : AD) : Prop := ∃ (A L k : Nat) (cs : List Nat), as = [.d (chd (A, cs))] ∧ Wf A L k cs ∧ r = .l ((takF A L k cs).map tkd)
theorem tak_len {A L k : Nat} {cs : List Nat} (n : Nat) : ((List.range n).flatMap fun l => ((List.range cs.length).filter fun c => madeF A L cs l c).map fun c => (l, c)).length ≤ n * cs.length := by
  induction n with
  | zero => simp
  | succ n ih =>
    rw [List.range_succ, List.flatMap_append, List.length_append, Nat.succ_mul]
    refine Nat.add_le_add ih ?_
    simp only [List.flatMap_cons, List.flatMap_nil, List.append_nil, List.length_map]
    exact Nat.le_trans (List.length_filter_le _ _) (by simp)
theorem ok_all_takings {f : Addr} {fd : FuncData} {T : List Addr} (F : Fun K "all_takings" "all_takings" t_all_takings f fd) (B : Bt mg) (M : Clb P w K mg base 3 "is_made" (spR K T madeS)) (Ld : Clb P w K mg base 1 "lands_of" (spR K T landsS)) : Ok0 P w K mg base 4 f fd p_all_takings T allS := by
  refine okR F sc_all_takings (fun as r h => ?_) (fun cdv Ar outer s H vs Q E as r hcd hr hT ha hs hq => ?_)
  · obtain ⟨A, L, k, cs, rfl, _⟩ := h
    rfl
  · obtain ⟨A, L, k, cs, rfl, W, rfl⟩ := hs
    have nd := sc_all_takings.nd
    obtain ⟨a, rfl, a1⟩ := arsd1 ha
    have hAL := W.AL
    have hlen := W.len
    have hkL := W.kL
    have hL3 := W.L3
    refine b_set 1 (v_lst (ds := []) a_nil (Nat.zero_le _)) fun v H1 e1 ⟨pf, xs, hv, hf0, hf1, hf2⟩ => ?_
    subst hv
    let tk : Nat → List (Nat × Nat) := fun n => (List.range n).flatMap fun l => ((List.range cs.length).filter fun c => madeF A L cs l c).map fun c => (l, c)
    have htk : ∀ n, tk (n + 1) = tk n ++ ((List.range cs.length).filter fun c => madeF A L cs n c).map fun c => (n, c) := fun n => by
      show List.flatMap _ _ = _
      rw [List.range_succ, List.flatMap_append]
      simp [tk]
    refine b_forR 2 (m := k) (v_cl Ld hr (hT.ext e1) (a_d (v_n 0 rfl (a1.mono e1.tk)) a_nil) ⟨A, L, k, cs, rfl, W, rfl⟩) (by omega) (fun i σ' H' => ∃ pf xs o o3, σ' = [some a, some (.ref pf), o, o3] ∧ Ext H H' ∧ H pf = none ∧ H' pf = some (.lst xs) ∧ TDs K H' xs ((tk i).map tkd))
      (fun H2 e2 => ⟨pf, xs, none, none, rfl, e1.trans e2, hf0, e2.lst hf1, hf2.mono e2.tk⟩) ?_ ?_ B.range
    · rintro i σ' H2 hi ⟨pf, xs, o, o3, rfl, e2, hf0, hf1, hf2⟩
      have hbl := tak_len (A := A) (L := L) (k := k) (cs := cs) i
      have hbm : i * cs.length ≤ 4 * 13 := Nat.mul_le_mul (by omega) (by omega)
      refine b_set 1 (v_cat (es := ((((List.range cs.length).filter fun c => madeF A L cs i c).map fun c => (i, c)).map tkd)) (v_h 1 rfl hf1 hf2) (EV.hd (EV.toN (v_lcR 3 (m := cs.length) (q := fun c => madeF A L cs i c) (gd := fun c => tkd (i, c)) ((v_lenT B.len (v_ixT (n := 1) (v_n 0 rfl (a1.mono e2.tk)) (v_num (n := 1)) rfl)).to (by rw [len_nd]; rfl)) (by omega) B.range (fun c H' hc e' s' H0 C cl fp => ⟨c_one (t_b (v_cl M hr (hT.ext (e2.trans e')) (a_d (v_n 0 rfl (a1.mono (e2.trans e').tk)) (a_d (v_tup (ds := [SL.nd i, SL.nd c]) (a_d (v_n 2 rfl (.int _)) (a_d (v_n 3 rfl (.int _)) a_nil)) (by simp [sizeLine_eq])) a_nil)) ⟨A, L, k, cs, i, c, rfl, W, hc, rfl⟩)), fun _ =>
        v_tup (ds := [SL.nd i, SL.nd c]) (a_d (v_n 2 rfl (.int _)) (a_d (v_n 3 rfl (.int _)) a_nil)) (by simp [sizeLine_eq])⟩)) ?_)) ?_) fun v H3 e3 ⟨pg, ys, hv, hg0, hg1, hg2⟩ => ?_
      · rw [List.map_map]
        rfl
      · have h1 := List.length_filter_le (fun c => madeF A L cs i c) (List.range cs.length)
        rw [List.length_range] at h1
        rw [List.length_map, List.length_map, List.length_map, sizeLine_eq]
        have : (tk i).length ≤ i * cs.length := hbl
        omega
      · subst hv
        refine b_nil ⟨pg, ys, _, _, rfl, e2.trans e3, e2.free hg0, hg1, ?_⟩
        rw [htk, List.map_append]
        exact hg2
    · rintro σ' H2 ⟨pf, xs, o, o3, rfl, e2, hf0, hf1, hf2⟩
      exact b_retS 1 rfl hf1 hf2 fun H' e hl hd => hq _ H' (e2.trans e) ⟨pf, xs, rfl, hf0, hl, hd⟩

def bareS (as : List AD) (r : AD) : Prop := ∃ (A L k : Nat) (cs : List Nat), as = [.d (chd (A, cs))] ∧ Wf A L k cs ∧ r = .d (nd (bareF A L cs))
theorem ok_bare_of {f c Pt : Addr} {fd : FuncData} {T : List Addr} (F : FunC K "bare_of" "bare_of" t_bare_of f fd c) (B : Bt mg) (TB : TabB base mg c Pt) (hPt : Pt ∈ T) (I : Clb P w K mg base 2 "outward" (spR K T outS)) : Ok0 P w K mg base 4 f fd p_bare_of T bareS := by
  refine okRC F sc_bare_of (fun as r h => ?_) (fun Ar outer s H vs Q E as r hr hT ha hs hq => ?_)
  · obtain ⟨A, L, k, cs, rfl, _⟩ := h
    rfl
  · obtain ⟨A, L, k, cs, rfl, W, rfl⟩ := hs
    have nd := sc_bare_of.nd
    obtain ⟨a, rfl, a1⟩ := arsd1 ha
    have hA4 := W.A4
    have hlen := W.len
    have hub : cs[0]? = some (hubF cs) := getD_get (by omega)
    refine b_set 1 (v_ixT (n := 0) (v_ixT (n := 1) (v_n 0 rfl a1) (v_num (n := 1)) rfl) (v_num (n := 0)) (map_get hub)) fun v H1 e1 r1 => ?_
    have r1 := int_inv r1
    subst r1
    refine b_retd ((v_lenL B.len (EV.rd (v_lcR 2 (m := A) (q := fun x => (rowF L cs x).all fun y => y == hubF cs) (gd := fun _ => SL.nd 1) (v_ixT (n := 0) (v_n 0 rfl (a1.mono e1.tk)) (v_num (n := 0)) rfl) (by omega) B.range (fun x H' hx e' s' H0 C cl fp => ⟨c_one (t_b ((w_all 3 (k := 2) (b := fun i => (rowF L cs x).getD i 0 == hubF cs) (pi_list pwe)
      (y_list (ds := (rowF L cs x).map SL.nd) (EV.rd (v_clL I hr (hT.ext (e1.trans e')) (a_d (v_n 0 rfl (a1.mono (e1.trans e').tk)) (a_d (v_n 2 rfl (.int _)) a_nil)) ⟨A, L, k, cs, x, rfl, W, hx, rfl⟩))) hr B TB rfl ((e1.trans e').tabg (hT Pt hPt)) fun i v H2 hi e2 hy A' s2 H02 C2 code fp2 hr' => ?_).to ?_)), fun _ => v_num (n := 1)⟩)))).to ?_) fun v H' e r => hq v H' (e1.trans e) r
    · rw [len_nd] at hi
      have hv := int_inv (hy _ (map_get (getD_get hi)))
      subst hv
      exact v_eqn (v_n 3 rfl (.int _)) (v_n 1 rfl (.int _))
    · rw [len_nd]
      exact congrArg Dat.bl (range_all (fun y => y == hubF cs) (rowF L cs x))
    · rw [List.length_map]
      rfl

def frzS (as : List AD) (r : AD) : Prop := ∃ (A L k : Nat) (cs : List Nat), as = [.d (chd (A, cs))] ∧ Wf A L k cs ∧ r = .d (.bl (decide (1 < bareF A L cs)))
theorem ok_freezes {f : Addr} {fd : FuncData} {T : List Addr} (F : Fun K "freezes" "freezes" t_freezes f fd) (I : Clb P w K mg base 4 "bare_of" (spR K T bareS)) : Ok0 P w K mg base 5 f fd p_freezes T frzS := by
  refine okR F sc_freezes (fun as r h => ?_) (fun cdv Ar outer s H vs Q E as r hcd hr hT ha hs hq => ?_)
  · obtain ⟨A, L, k, cs, rfl, _⟩ := h
    rfl
  · obtain ⟨A, L, k, cs, rfl, W, rfl⟩ := hs
    have nd := sc_freezes.nd
    obtain ⟨a, rfl, a1⟩ := arsd1 ha
    exact b_retd (v_gtn (v_cl I hr hT (a_d (v_n 0 rfl a1) a_nil) ⟨A, L, k, cs, rfl, W, rfl⟩) (v_num (n := 1))) fun v H' e r => hq v H' e r

def tipsS (as : List AD) (r : AD) : Prop := ∃ (A L k : Nat) (cs : List Nat), as = [.d (chd (A, cs))] ∧ Wf A L k cs ∧ r = .d (lnd (tipsF A L cs))
theorem row_last {A L k : Nat} {cs : List Nat} (W : Wf A L k cs) {a : Nat} (ha : a < A) : ∃ l, rowF L cs a = l ++ [cs.getD ((a + 1) * L) 0] := by
  have h1 := row_len W.len ha
  have hL1 := W.L1
  have h2 := row_get W.len ha (i := L - 1) (by omega)
  have hne : rowF L cs a ≠ [] := fun z => by rw [z] at h1; simp at h1; omega
  refine ⟨(rowF L cs a).dropLast, ?_⟩
  have h3 := (List.dropLast_concat_getLast hne).symm
  have h4 : (rowF L cs a).getLast hne = cs.getD ((a + 1) * L) 0 := by
    rw [List.getLast_eq_getElem]
    have h5 : (rowF L cs a)[(rowF L cs a).length - 1]? = some (cs.getD (1 + a * L + (L - 1)) 0) := by rw [h1]; exact h2
    rw [List.getElem?_eq_getElem (by omega)] at h5
    rw [Option.some.inj h5]
    congr 1
    rw [Nat.add_mul]
    omega
  rw [h4] at h3
  exact h3
theorem ok_tips {f : Addr} {fd : FuncData} {T : List Addr} (F : Fun K "tips" "tips" t_tips f fd) (B : Bt mg) (I : Clb P w K mg base 2 "outward" (spR K T outS)) : Ok0 P w K mg base 3 f fd p_tips T tipsS := by
  refine okR F sc_tips (fun as r h => ?_) (fun cdv Ar outer s H vs Q E as r hcd hr hT ha hs hq => ?_)
  · obtain ⟨A, L, k, cs, rfl, _⟩ := h
    rfl
  · obtain ⟨A, L, k, cs, rfl, W, rfl⟩ := hs
    have nd := sc_tips.nd
    obtain ⟨a, rfl, a1⟩ := arsd1 ha
    have hA4 := W.A4
    refine b_retd ((v_toTup B.tuple (EV.rd (v_lcR 1 (m := A) (q := fun _ => true) (gd := fun x => SL.nd (cs.getD ((x + 1) * L) 0)) (v_ixT (n := 0) (v_n 0 rfl a1) (v_num (n := 0)) rfl) (by omega) B.range (fun x H' hx e' s' H0 C cl fp => ⟨c_nil, fun _ => ?_⟩)))).to ?_) fun v H' e r => hq v H' e r
    · obtain ⟨l, hl⟩ := row_last W hx
      exact v_ixE (ds' := l.map SL.nd) (EV.rd (v_clL I hr (hT.ext e') (a_d (v_n 0 rfl (a1.mono e'.tk)) (a_d (v_n 1 rfl (.int _)) a_nil)) ⟨A, L, k, cs, x, rfl, W, hx, rfl⟩)) v_neg1 (by rw [hl, List.map_append]; rfl)
    · rw [filter_all]
      show Dat.tup _ = Dat.tup ((tipsF A L cs).map SL.nd)
      unfold tipsF
      rw [List.map_map]
      rfl

/-- the key as data -/
def keyD (A L k : Nat) (cs : List Nat) : Dat := if 1 < bareF A L cs then .tup [nd A, nd cs.length, nd k, nd (hubF cs), .tup ((ordsF A L cs).map lnd)] else .tup [nd A, nd cs.length, nd k, lnd (tipsF A L cs)]
def keyS (as : List AD) (r : AD) : Prop := ∃ (A L k : Nat) (cs : List Nat), as = [.d (chd (A, cs))] ∧ Wf A L k cs ∧ r = .d (keyD A L k cs)
theorem ok_key_of {f : Addr} {fd : FuncData} {T : List Addr} (F : Fun K "key_of" "key_of" t_key_of f fd) (B : Bt mg) (Ld : Clb P w K mg base 1 "lands_of" (spR K T landsS)) (Fz : Clb P w K mg base 5 "freezes" (spR K T frzS)) (Ao : Clb P w K mg base 4 "all_orders" (spR K T ordsS)) (Tp : Clb P w K mg base 3 "tips" (spR K T tipsS)) :
    Ok0 P w K mg base 6 f fd p_key_of T keyS := by
  refine okR F sc_key_of (fun as r h => ?_) (fun cdv Ar outer s H vs Q E as r hcd hr hT ha hs hq => ?_)
  · obtain ⟨A, L, k, cs, rfl, _⟩ := h
    rfl
  · obtain ⟨A, L, k, cs, rfl, W, rfl⟩ := hs
    have nd := sc_key_of.nd
    obtain ⟨a, rfl, a1⟩ := arsd1 ha
    have hlen := W.len
    have hub : cs[0]? = some (hubF cs) := getD_get (by omega)
    refine b_set 1 (v_tup (ds := [SL.nd A, SL.nd cs.length, SL.nd k]) (a_d (v_ixT (n := 0) (v_n 0 rfl a1) (v_num (n := 0)) rfl) (a_d ((v_lenT B.len (v_ixT (n := 1) (v_n 0 rfl a1) (v_num (n := 1)) rfl)).to (by rw [len_nd]; rfl)) (a_d (v_cl Ld hr hT (a_d (v_n 0 rfl a1) a_nil) ⟨A, L, k, cs, rfl, W, rfl⟩) a_nil))) (by simp [sizeLine_eq])) fun v H1 e1 r1 => ?_
    have m1 := a1.mono e1.tk
    have hT1 := hT.ext e1
    refine b_retd (v_ifd (q := decide (1 < bareF A L cs)) (t_b (v_cl Fz hr hT1 (a_d (v_n 0 rfl m1) a_nil) ⟨A, L, k, cs, rfl, W, rfl⟩)) (fun hz => EV.to ?_ (show _ = keyD A L k cs from (if_pos (by simpa using hz)).symm)) (fun hz => EV.to ?_ (show _ = keyD A L k cs from (if_neg (by simpa using hz)).symm))) fun v H' e r => hq v H' (e1.trans e) r
    · refine v_tup (ds := [SL.nd A, SL.nd cs.length, SL.nd k, SL.nd (hubF cs), .tup ((ordsF A L cs).map lnd)]) ?_ (by simp [sizeLine_eq])
      exact a_star (ds := [SL.nd A, SL.nd cs.length, SL.nd k]) (v_n 1 rfl r1) (a_d (v_ixT (n := 0) (v_ixT (n := 1) (v_n 0 rfl m1) (v_num (n := 1)) rfl) (v_num (n := 0)) (map_get hub)) (a_d (v_cl Ao hr hT1 (a_d (v_n 0 rfl m1) a_nil) ⟨A, L, k, cs, rfl, W, rfl⟩) a_nil))
    · refine v_tup (ds := [SL.nd A, SL.nd cs.length, SL.nd k, lnd (tipsF A L cs)]) ?_ (by simp [sizeLine_eq])
      exact a_star (ds := [SL.nd A, SL.nd cs.length, SL.nd k]) (v_n 1 rfl r1) (a_d (v_cl Tp hr hT1 (a_d (v_n 0 rfl m1) a_nil) ⟨A, L, k, cs, rfl, W, rfl⟩) a_nil)

def twoS (as : List AD) (r : AD) : Prop := ∃ (A L k : Nat) (cs cs2 : List Nat), as = [.d (chd (A, cs)), .d (chd (A, cs2))] ∧ Wf A L k cs ∧ Wf A L k cs2 ∧ r = .d .non
theorem ok_need_two {f : Addr} {fd : FuncData} {T : List Addr} (F : Fun K "need_two" "need_two" t_need_two f fd) (B : Bt mg) (Nm : Clb P w K mg base 6 "need_map" (spR K T nonS)) (Im : Clb P w K mg base 5 "is_map" (spR K T ismS)) (Ld : Clb P w K mg base 1 "lands_of" (spR K T landsS)) : Ok0 P w K mg base 7 f fd p_need_two T twoS := by
  refine okR F sc_need_two (fun as r h => ?_) (fun cdv Ar outer s H vs Q E as r hcd hr hT ha hs hq => ?_)
  · obtain ⟨A, L, k, cs, cs2, rfl, _⟩ := h
    rfl
  · obtain ⟨A, L, k, cs, cs2, rfl, W, W2, rfl⟩ := hs
    have nd := sc_need_two.nd
    obtain ⟨a, b, rfl, a1, a2⟩ := arsd2 ha
    refine b_expr (v_cl Nm hr hT (a_d (v_n 0 rfl a1) a_nil) ⟨A, L, k, cs, rfl, W, rfl⟩) fun v H1 e1 r1 => ?_
    have m1 := a1.mono e1.tk
    have m2 := a2.mono e1.tk
    have hT1 := hT.ext e1
    refine b_if (q := false) (t_w ?_) (fun hz H2 e2 => by cases hz) (fun hz H2 e2 => b_nil (b_nil (hq _ H2 (e1.trans e2) .non)))
    refine w_or (q := false) (r := false) ((t_not (t_b (v_cl Im hr hT1 (a_d (v_n 1 rfl m2) a_nil) ⟨A, L, k, cs2, rfl, W2, rfl⟩))).to rfl) fun _ => w_or (q := false) (r := false) ((t_nen (v_ixT (n := 0) (v_n 1 rfl m2) (v_num (n := 0)) rfl) (v_ixT (n := 0) (v_n 0 rfl m1) (v_num (n := 0)) rfl)).to (by simp)) fun _ =>
      w_or (q := false) (r := false) ((t_nen (m := cs2.length) (n := cs.length) ((v_lenT B.len (v_ixT (n := 1) (v_n 1 rfl m2) (v_num (n := 1)) rfl)).to (by rw [len_nd]; rfl)) ((v_lenT B.len (v_ixT (n := 1) (v_n 0 rfl m1) (v_num (n := 1)) rfl)).to (by rw [len_nd]; rfl))).to (by rw [W.len, W2.len]; simp)) fun _ =>
      w_or1 ((t_nen (v_cl Ld hr hT1 (a_d (v_n 1 rfl m2) a_nil) ⟨A, L, k, cs2, rfl, W2, rfl⟩) (v_cl Ld hr hT1 (a_d (v_n 0 rfl m1) a_nil) ⟨A, L, k, cs, rfl, W, rfl⟩)).to (by simp))
end
end SL

/-! plain: least labels. F: a label each; a label (a, b) is less by a, then by b -/
namespace SL
abbrev Lab := Nat × Nat
def ltL (a b : Lab) : Bool := decide (a.1 < b.1) || (a.1 == b.1 && decide (a.2 < b.2))
theorem ltL_iff {a b : Lab} : ltL a b = true ↔ a.1 < b.1 ∨ (a.1 = b.1 ∧ a.2 < b.2) := by
  simp [ltL]
section
variable {α β : Type} [DecidableEq α]
def getB (F : List (α × β)) (k : α) : Option β := (F.find? fun kv => decide (kv.1 = k)).map (·.2)
def putB (F : List (α × β)) (k : α) (v : β) : List (α × β) := if (F.any fun kv => decide (kv.1 = k)) = true then F.map (fun kv => if kv.1 = k then (kv.1, v) else kv) else F ++ [(k, v)]
theorem getB_nil (k : α) : getB ([] : List (α × β)) k = none := rfl
theorem getB_cons (p : α × β) (F : List (α × β)) (k : α) : getB (p :: F) k = if p.1 = k then some p.2 else getB F k := by
  unfold getB
  rw [List.find?_cons]
  by_cases h : p.1 = k
  · simp [h]
  · simp [h]
theorem any_isSome (F : List (α × β)) (k : α) : (F.any fun kv => decide (kv.1 = k)) = (getB F k).isSome := by
  induction F with
  | nil => rfl
  | cons p F ih =>
    rw [List.any_cons, getB_cons, ih]
    by_cases e : p.1 = k
    · simp [e]
    · simp [e]
theorem getB_append (F : List (α × β)) (p : α × β) (k : α) : getB (F ++ [p]) k = (getB F k).or (if p.1 = k then some p.2 else none) := by
  induction F with
  | nil => rw [List.nil_append, getB_cons, getB_nil]; simp
  | cons q F ih =>
    rw [List.cons_append, getB_cons, getB_cons, ih]
    by_cases e : q.1 = k
    · simp [e]
    · simp [e]
theorem getB_map (F : List (α × β)) (k j : α) (v : β) : getB (F.map fun kv => if kv.1 = k then (kv.1, v) else kv) j = if j = k then (getB F j).map (fun _ => v) else getB F j := by
  induction F with
  | nil => simp [getB_nil]
  | cons q F ih =>
    rw [List.map_cons, getB_cons, getB_cons, ih]
    by_cases e : q.1 = k
    · rw [if_pos e]
      by_cases e2 : q.1 = j
      · rw [if_pos e2, if_pos e2, if_pos (e2.symm.trans e)]
        rfl
      · rw [if_neg e2, if_neg e2]
    · rw [if_neg e]
      by_cases e2 : q.1 = j
      · rw [if_pos e2, if_pos e2, if_neg (fun z => e (e2.trans z))]
      · rw [if_neg e2, if_neg e2]
theorem getB_put (F : List (α × β)) (k j : α) (v : β) : getB (putB F k v) j = if j = k then some v else getB F j := by
  unfold putB
  rw [any_isSome]
  by_cases h : (getB F k).isSome = true
  · rw [if_pos h, getB_map]
    by_cases e : j = k
    · subst e
      rw [if_pos rfl, if_pos rfl]
      obtain ⟨b, hb⟩ := Option.isSome_iff_exists.mp h
      rw [hb]
      rfl
    · rw [if_neg e, if_neg e]
  · rw [if_neg h, getB_append]
    by_cases e : j = k
    · subst e
      have hn : getB F j = none := by simpa using h
      rw [if_pos rfl, hn]
      simp
    · rw [if_neg e]
      simp [Ne.symm e]
def keysB (F : List (α × β)) : List α := F.map (·.1)
theorem mem_keys {F : List (α × β)} {k : α} : k ∈ keysB F ↔ (getB F k).isSome = true := by
  induction F with
  | nil => simp [keysB, getB_nil]
  | cons p F ih =>
    rw [getB_cons, keysB, List.map_cons, List.mem_cons]
    by_cases e : p.1 = k
    · simp [e]
    · rw [if_neg e, ← ih]
      simp [Ne.symm e, keysB]
theorem keys_put (F : List (α × β)) (k : α) (v : β) : keysB (putB F k v) = if (getB F k).isSome = true then keysB F else keysB F ++ [k] := by
  unfold putB keysB
  rw [any_isSome]
  split
  · rw [List.map_map]
    refine List.map_congr_left fun x _ => ?_
    show (if x.1 = k then (x.1, v) else x).1 = x.1
    split <;> rfl
  · rw [List.map_append]
    rfl
theorem nodup_put {F : List (α × β)} (h : (keysB F).Nodup) (k : α) (v : β) : (keysB (putB F k v)).Nodup := by
  rw [keys_put]
  split
  · exact h
  · rename_i z
    rw [List.nodup_append]
    refine ⟨h, by simp, fun a ha b hb e => ?_⟩
    rw [List.mem_singleton.mp hb] at e
    rw [e] at ha
    exact z (mem_keys.mp ha)
theorem getB_of_mem {F : List (α × β)} (h : (keysB F).Nodup) {p : α × β} (hp : p ∈ F) : getB F p.1 = some p.2 := by
  induction F with
  | nil => cases hp
  | cons q F ih =>
    rw [getB_cons]
    have h' : q.1 ∉ keysB F ∧ (keysB F).Nodup := List.nodup_cons.mp h
    rcases List.mem_cons.mp hp with e | hp
    · rw [e, if_pos rfl]
    · rw [if_neg, ih h'.2 hp]
      intro e
      exact h'.1 (by rw [e]; exact List.mem_map_of_mem hp)
end

/-! ### ways and their cost -/
section
variable {α : Type} [DecidableEq α]
/-- a way from s: its turns, its steps -/
inductive Way (out : α → List (α × Nat)) (s : α) : α → Lab → Prop
  | refl : Way out s s (0, 0)
  | step {m m' : α} {t n w : Nat} : Way out s m (t, n) → (m', w) ∈ out m → Way out s m' (t + w, n + 1)
def part (l : Lab) (w : Nat) : Lab := (l.1 + w, l.2 + 1)
def betterB (F : List (α × Lab)) (k : α) (v : Lab) : Bool := match getB F k with
  | none => true
  | some u => ltL v u
/-- every way out of m is asked -/
def Closed (out : α → List (α × Nat)) (F : List (α × Lab)) (m : α) : Prop := ∀ v, getB F m = some v → ∀ e, e ∈ out m → betterB F e.1 (part v e.2) = false
structure Good (out : α → List (α × Nat)) (s : α) (F : List (α × Lab)) : Prop where
  nd : (keysB F).Nodup
  st : getB F s = some (0, 0)
  snd : ∀ k v, getB F k = some v → Way out s k v
theorem ltL_not {a b : Lab} : ltL a b = false ↔ b.1 < a.1 ∨ (b.1 = a.1 ∧ b.2 ≤ a.2) := by
  rw [← Bool.not_eq_true, ltL_iff]
  omega
theorem Good.least {out : α → List (α × Nat)} {s : α} {F : List (α × Lab)} (g : Good out s F) (c : ∀ m, Closed out F m) : ∀ {k : α} {v : Lab}, Way out s k v → ∃ u, getB F k = some u ∧ ltL v u = false := by
  intro k v h
  induction h with
  | refl => exact ⟨_, g.st, by decide⟩
  | @step m m' t n w h1 h2 ih =>
    obtain ⟨u, e, l⟩ := ih
    have := c m u e (m', w) h2
    unfold betterB at this
    cases hq : getB F m' with
    | none => simp [hq] at this
    | some u' =>
      rw [hq] at this
      have h3 : ltL (part u w) u' = false := this
      refine ⟨u', rfl, ?_⟩
      rw [ltL_not] at l h3 ⊢
      simp only [part] at h3
      simp only at l ⊢
      omega
/-- two such tables are one -/
theorem Good.same {out : α → List (α × Nat)} {s : α} {F G : List (α × Lab)} (f : Good out s F) (cf : ∀ m, Closed out F m) (g : Good out s G) (cg : ∀ m, Closed out G m) (k : α) : getB F k = getB G k := by
  cases hF : getB F k with
  | none =>
    cases hG : getB G k with
    | none => rfl
    | some v =>
      obtain ⟨u, e, _⟩ := f.least cf (g.snd k v hG)
      rw [hF] at e
      cases e
  | some v =>
    obtain ⟨u, e, l⟩ := g.least cg (f.snd k v hF)
    obtain ⟨v', e', l'⟩ := f.least cf (g.snd k u e)
    rw [hF] at e'
    cases e'
    rw [e]
    rw [ltL_not] at l l'
    congr 1
    exact Prod.ext (by omega) (by omega)
theorem Good.put {out : α → List (α × Nat)} {s : α} {F : List (α × Lab)} (g : Good out s F) {m m' : α} {v : Lab} {w : Nat} (hm : getB F m = some v) (he : (m', w) ∈ out m) (hb : betterB F m' (part v w) = true) : Good out s (putB F m' (part v w)) where
  nd := nodup_put g.nd _ _
  st := by
    rw [getB_put]
    by_cases e : s = m'
    · subst e
      unfold betterB at hb
      rw [g.st] at hb
      have hb : ltL (part v w) (0, 0) = true := hb
      rw [ltL_iff] at hb
      simp [part] at hb
    · rw [if_neg e]
      exact g.st
  snd := fun k u h => by
    rw [getB_put] at h
    by_cases e : k = m'
    · subst e
      rw [if_pos rfl] at h
      cases h
      exact .step (g.snd m v hm) he
    · rw [if_neg e] at h
      exact g.snd k u h
/-- a better label elsewhere leaves it so -/
theorem Closed.put {out : α → List (α × Nat)} {F : List (α × Lab)} {m k : α} {v : Lab} (c : Closed out F m) (hk : m ≠ k) (hb : betterB F k v = true) : Closed out (putB F k v) m := by
  intro u hu e he
  rw [getB_put, if_neg hk] at hu
  have h := c u hu e he
  unfold betterB at h ⊢
  rw [getB_put]
  by_cases e1 : e.1 = k
  · rw [if_pos e1]
    rw [e1] at h
    unfold betterB at hb
    cases hq : getB F k with
    | none => simp [hq] at h
    | some w =>
      rw [hq] at h hb
      have h : ltL (part u e.2) w = false := h
      have hb : ltL v w = true := hb
      show ltL (part u e.2) v = false
      rw [ltL_not] at h ⊢
      rw [ltL_iff] at hb
      omega
  · rw [if_neg e1]
    exact h
end

/-! ### it ends: labels only fall -/
section
variable {α : Type} [DecidableEq α]
def sumBy (f : α → Nat) (U : List α) : Nat := (U.map f).sum
def mu1 (U : List α) (F : List (α × Lab)) : Nat := sumBy (fun k => if (getB F k).isSome then 0 else 1) U
def mu2 (U : List α) (F : List (α × Lab)) : Nat := sumBy (fun k => ((getB F k).getD (0, 0)).1) U
def mu3 (U : List α) (F : List (α × Lab)) : Nat := sumBy (fun k => ((getB F k).getD (0, 0)).2) U
theorem sumBy_le {f g : α → Nat} {U : List α} (h : ∀ k, k ∈ U → f k ≤ g k) : sumBy f U ≤ sumBy g U := by
  induction U with
  | nil => exact Nat.le_refl _
  | cons a U ih =>
    simp only [sumBy, List.map_cons, List.sum_cons] at ih ⊢
    have h1 := h a List.mem_cons_self
    have h2 := ih fun k hk => h k (List.mem_cons_of_mem _ hk)
    omega
theorem sumBy_lt {f g : α → Nat} {U : List α} {a : α} (h : ∀ k, k ∈ U → f k ≤ g k) (ha : a ∈ U) (hl : f a < g a) : sumBy f U < sumBy g U := by
  induction U with
  | nil => cases ha
  | cons b U ih =>
    have hb := h b List.mem_cons_self
    have hr := sumBy_le fun k hk => h k (List.mem_cons_of_mem b hk)
    simp only [sumBy, List.map_cons, List.sum_cons] at ih hr ⊢
    rcases List.mem_cons.mp ha with e | ha
    · subst e
      omega
    · have := ih (fun k hk => h k (List.mem_cons_of_mem b hk)) ha
      omega
def muL (U : List α) (F : List (α × Lab)) : Nat × Nat × Nat := (mu1 U F, mu2 U F, mu3 U F)
abbrev muR : (Nat × Nat × Nat) → (Nat × Nat × Nat) → Prop := Prod.Lex (· < ·) (Prod.Lex (· < ·) (· < ·))
theorem muR_wf : WellFounded muR := (Prod.lex ⟨_, Nat.lt_wfRel.wf⟩ (Prod.lex ⟨_, Nat.lt_wfRel.wf⟩ ⟨_, Nat.lt_wfRel.wf⟩)).wf
theorem mu_put {U : List α} {F : List (α × Lab)} {k : α} {v : Lab} (hk : k ∈ U) (hb : betterB F k v = true) : muR (muL U (putB F k v)) (muL U F) := by
  unfold muL muR
  cases hq : getB F k with
  | none =>
    refine Prod.Lex.left _ _ (sumBy_lt (a := k) (fun j hj => ?_) hk ?_)
    · rw [getB_put]
      by_cases e : j = k
      · rw [if_pos e]; simp
      · rw [if_neg e]; exact Nat.le_refl _
    · rw [getB_put, if_pos rfl, hq]
      simp
  | some u =>
    have h1 : mu1 U (putB F k v) = mu1 U F := by
      unfold mu1
      congr 1
      funext j
      rw [getB_put]
      by_cases e : j = k
      · subst e
        rw [if_pos rfl, hq]; simp
      · rw [if_neg e]
    rw [h1]
    refine Prod.Lex.right _ ?_
    have hv : ltL v u = true := by
      unfold betterB at hb
      rw [hq] at hb
      exact hb
    clear hb
    rw [ltL_iff] at hv
    rcases hv with hb | ⟨hb, hb2⟩
    · refine Prod.Lex.left _ _ (sumBy_lt (a := k) (fun j hj => ?_) hk ?_)
      · rw [getB_put]
        by_cases e : j = k
        · subst e
          rw [if_pos rfl, hq]
          exact Nat.le_of_lt hb
        · rw [if_neg e]; exact Nat.le_refl _
      · rw [getB_put, if_pos rfl, hq]
        exact hb
    · have h2 : mu2 U (putB F k v) = mu2 U F := by
        unfold mu2
        congr 1
        funext j
        rw [getB_put]
        by_cases e : j = k
        · subst e
          rw [if_pos rfl, hq]
          exact hb
        · rw [if_neg e]
      rw [h2]
      refine Prod.Lex.right _ (sumBy_lt (a := k) (fun j hj => ?_) hk ?_)
      · rw [getB_put]
        by_cases e : j = k
        · subst e
          rw [if_pos rfl, hq]
          exact Nat.le_of_lt hb2
        · rw [if_neg e]; exact Nat.le_refl _
      · rw [getB_put, if_pos rfl, hq]
        exact hb2
end
end SL

set_option maxHeartbeats 4000000
/-! dicts by maps in the style of W: labels -/
namespace SL
open PySem PySem.Spec PyProof.Rows L2 GxR GX StX

def DV {β : Type} (P : Program) (w : World) (K : PySem.W.Frag) (val : β → Dat) (H : Hp) (d : Addr) (F : List (Map × β)) : Prop := ∃ kvs, DM P w K H d kvs ∧ Paired (fun (p : Map × V) (q : Map × β) => p.1 = q.1 ∧ TD K H p.2 (val q.2)) kvs F
section
variable {β : Type} {P : Program} {w : World} {K : PySem.W.Frag} {val : β → Dat} {H H' : Hp} {d : Addr} {F : List (Map × β)}
theorem DV.keep (h : DV P w K val H d F) (t : Tk H H') (e : H' d = H d) : DV P w K val H' d F := by
  obtain ⟨kvs, h1, h2⟩ := h
  exact ⟨kvs, h1.keep t e, Paired.mapP h2 fun _ _ z => ⟨z.1, z.2.mono t⟩⟩
theorem DV.ext (h : DV P w K val H d F) (t : Ext H H') : DV P w K val H' d F := by
  obtain ⟨kvs, h1, h2⟩ := h
  exact ⟨kvs, h1.ext t, Paired.mapP h2 fun _ _ z => ⟨z.1, z.2.mono t.tk⟩⟩
theorem DV.some (h : DV P w K val H d F) : ∃ f, H d = some (.ext f) := by
  obtain ⟨kvs, ⟨_, _, xs, h, _⟩, _⟩ := h
  exact ⟨_, h⟩
theorem pair_get {kvs : List (Map × V)} (r : Paired (fun (p : Map × V) (q : Map × β) => p.1 = q.1 ∧ TD K H p.2 (val q.2)) kvs F) (k : Map) : (∃ v b, valV kvs k = some v ∧ getB F k = some b ∧ TD K H v (val b)) ∨ (valV kvs k = none ∧ getB F k = none) := by
  induction r with
  | nil => exact .inr ⟨rfl, rfl⟩
  | @cons p q ps qs h t ih =>
    by_cases e : p.1 = k
    · refine .inl ⟨p.2, q.2, valV_pos e, ?_, h.2⟩
      simp [getB, List.find?_cons, h.1.symm.trans e]
    · have e2 : ¬ q.1 = k := fun z => e (h.1.trans z)
      rw [valV_neg e, show getB (q :: qs) k = getB qs k by simp [getB, List.find?_cons, e2]]
      exact ih
theorem any_getB (F : List (Map × β)) (k : Map) : (F.any fun kv => decide (kv.1 = k)) = (getB F k).isSome := by
  induction F with
  | nil => rfl
  | cons p F ih =>
    by_cases e : p.1 = k
    · simp [getB, List.find?_cons, e]
    · simp only [List.any_cons, e, decide_false, Bool.false_or, getB, List.find?_cons] at ih ⊢
      exact ih
theorem pair_put {kvs : List (Map × V)} (r : Paired (fun (p : Map × V) (q : Map × β) => p.1 = q.1 ∧ TD K H p.2 (val q.2)) kvs F) (k : Map) {v : V} {b : β} (hv : TD K H v (val b)) :
    Paired (fun (p : Map × V) (q : Map × β) => p.1 = q.1 ∧ TD K H p.2 (val q.2)) (putK kvs k v) (putB F k b) := by
  have e : (kvs.any fun kv => decide (kv.1 = k)) = (F.any fun kv => decide (kv.1 = k)) := by
    rw [valV_any, any_getB]
    rcases pair_get r k with ⟨v, b, h1, h2, _⟩ | ⟨h1, h2⟩ <;> rw [h1, h2] <;> rfl
  unfold putK putB
  rw [e]
  split
  · rename_i z
    clear z e
    induction r with
    | nil => exact .nil
    | @cons p q ps qs h t ih =>
      rw [List.map_cons, List.map_cons]
      refine .cons ?_ ih
      by_cases e : p.1 = k
      · rw [if_pos e, if_pos (h.1.symm.trans e)]
        exact ⟨h.1, hv⟩
      · rw [if_neg e, if_neg (fun z => e (h.1.trans z))]
        exact h
  · exact Paired.snoc r ⟨rfl, hv⟩
theorem pair_keys {kvs : List (Map × V)} (r : Paired (fun (p : Map × V) (q : Map × β) => p.1 = q.1 ∧ TD K H p.2 (val q.2)) kvs F) : kvs.map (·.1) = F.map (·.1) := by
  induction r with
  | nil => rfl
  | cons h t ih => rw [List.map_cons, List.map_cons, h.1, ih]
end

/-- a new dict -/
def isnd (X : Cx) {β : Type} (val : β → Dat) (F : List (Map × β)) : RV2 := fun H0 v H => ∃ d, v = .ref d ∧ H0 d = none ∧ DV X.prog X.w X.K val H d F
section
variable {X : Cx} {σ : L2.St} {H : Hp} {a b c : Expr} {pos p p1 p2 : Pos} {β : Type} {val : β → Dat} {F : List (Map × β)} {d : Addr} {m : Map} {D : Ends} {rest : List Stmt} {x : Str}
theorem t_inD (hu : X.A.units + 20 < cLine) (ha : EV X σ H a (isd X (chd m))) (hb : EV X σ H b (isr (.ref d))) (hd : DV X.prog X.w X.K val H d F) (hm : behindInMarks .In b = false := by with_unfolding_all rfl) : ET X σ H (.Compare a [.In] [b] pos) (getB F m).isSome :=
  et_cmp (op_inM hu) ha hb (fun H0 H1 H2 x y e0 e1 e2 r1 r2 Q q => by
    obtain ⟨kvs, h1, h2⟩ := hd.ext ((e0.trans e1).trans e2)
    refine ⟨d, kvs, m, r2, h1, TD.mono r1 e2.tk, ?_⟩
    rw [if_neg Bool.false_ne_true]
    rcases pair_get h2 m with ⟨v, b, g1, g2, _⟩ | ⟨g1, g2⟩ <;> rw [g1] <;> rw [g2] at q <;> exact q) hm
theorem t_notInD (hu : X.A.units + 20 < cLine) (ha : EV X σ H a (isd X (chd m))) (hb : EV X σ H b (isr (.ref d))) (hd : DV X.prog X.w X.K val H d F) (hm : behindInMarks .NotIn b = false := by with_unfolding_all rfl) : ET X σ H (.Compare a [.NotIn] [b] pos) (!(getB F m).isSome) :=
  et_cmp (op_notInM hu) ha hb (fun H0 H1 H2 x y e0 e1 e2 r1 r2 Q q => by
    obtain ⟨kvs, h1, h2⟩ := hd.ext ((e0.trans e1).trans e2)
    refine ⟨d, kvs, m, r2, h1, TD.mono r1 e2.tk, ?_⟩
    rw [if_pos rfl]
    rcases pair_get h2 m with ⟨v, b, g1, g2, _⟩ | ⟨g1, g2⟩ <;> rw [g1] <;> rw [g2] at q <;> exact q) hm
/-- found[here] -/
theorem v_getM {v : β} (hu : X.A.units + 20 < cLine) (ha : EV X σ H a (isr (.ref d))) (hb : EV X σ H b (isd X (chd m))) (hd : DV X.prog X.w X.K val H d F) (hg : getB F m = some v) (hp : PlainIx b := by intro _ _; rfl) : EV X σ H (.Subscript a b pos) (isd X (val v)) :=
  EV.by (pe_getM hu pwe pwe hp) (ev_two ha hb fun H0 H1 H2 x y e0 e1 e2 r1 r2 Q k => by
    obtain ⟨kvs, h1, h2⟩ := hd.ext ((e0.trans e1).trans e2)
    rcases pair_get h2 m with ⟨u, b, g1, g2, g3⟩ | ⟨g1, g2⟩
    · rw [hg] at g2
      cases g2
      exact ⟨d, kvs, m, u, r1, h1, r2, g1, k u H2 (Ext.refl _) g3⟩
    · rw [hg] at g2
      cases g2)
/-- the dict that a call gives -/
theorem v_getNM {v : β} (hu : X.A.units + 20 < cLine) (ha : EV X σ H a (isnd X val F)) (hb : EV X σ H b (isd X (chd m))) (hg : getB F m = some v) (hp : PlainIx b := by intro _ _; rfl) : EV X σ H (.Subscript a b pos) (isd X (val v)) :=
  EV.by (pe_getM hu pwe pwe hp) (ev_two ha hb fun H0 H1 H2 x y e0 e1 e2 r1 r2 Q k => by
    obtain ⟨d, rd, _, hd⟩ := r1
    obtain ⟨kvs, h1, h2⟩ := hd.ext e2
    rcases pair_get h2 m with ⟨u, b, g1, g2, g3⟩ | ⟨g1, g2⟩
    · rw [hg] at g2
      cases g2
      exact ⟨d, kvs, m, u, rd, h1, r2, g1, k u H2 (Ext.refl _) g3⟩
    · rw [hg] at g2
      cases g2)
/-- found[there] = part, three names -/
theorem b_putM {o i e : Expr} {v : β} {p3 : Pos} (hu : X.A.units + 20 < cLine) (he : EV X σ H e (isd X (val v))) (ho : EV X σ H o (isr (.ref d))) (hi : EV X σ H i (isd X (chd m))) (hd : DV X.prog X.w X.K val H d F) (hl : F.length < sizeLine)
    (k : ∀ H1 ob, Ext H H1 → DV X.prog X.w X.K val (upd H1 d ob) d (putB F m v) → Tk H1 (upd H1 d ob) → (∃ f, ob = .ext f) → WB X rest D σ (upd H1 d ob))
    (ha : ∀ v, assign (.Subscript o i p3) X.env v = (do
      let ov ← holding [v] (eval o X.env)
      let iv ← holding [v, ov] (eval i X.env)
      standAt p3
      holding [v, ov, iv] (setItem ov iv v)
      release [v, ov, iv] []) := by intro _; rfl)
    (hs : swapsWithSole [.Subscript o i p3] e pos.line X.env = pure false := by rfl) (hw : swappedStores [.Subscript o i p3] e X.env = pure none := by rfl)
    (h1 : (assignEach [.Subscript o i p3] X.env).map (·.2) = [assign (.Subscript o i p3) X.env] := by rfl) : WB X (.Assign [.Subscript o i p3] e pos :: rest) D σ H :=
  b_cons (WS.of (ps_asg pwe (pg_sub pwe pwe (set_putM hu) ha) hs hw h1) (he H (Ext.refl _) _ fun u H1 e1 r1 => ho H1 e1 _ fun x H2 e2 r2 => hi H2 (e1.trans e2) _ fun y H3 e3 r3 => by
    have e03 := (e1.trans e2).trans e3
    obtain ⟨kvs, h1, h2⟩ := hd.ext e03
    have hlen : kvs.length = F.length := Paired.length h2
    refine ⟨d, kvs, m, r2, h1, r3, by rw [hlen]; exact hl, fun ob hob t hx => k H3 ob e03 ?_ t hx⟩
    exact ⟨_, hob, Paired.mapP (pair_put h2 m (TD.mono r1 (e2.trans e3).tk)) fun _ _ z => ⟨z.1, z.2.mono t⟩⟩))
theorem v_newM : EV X σ H (.Dict [] [] pos) (isnd X val ([] : List (Map × β))) :=
  EV.by pe_newM fun H1 e1 Q k => fun d ob hn hd => k _ _ (Ext.new hn) ⟨d, rfl, hn, [], hd, .nil⟩
theorem v_oneM {v : β} (hu : X.A.units + 20 < cLine) (ha : EV X σ H a (isd X (chd m))) (hb : EV X σ H b (isd X (val v))) : EV X σ H (.Dict [some a] [b] pos) (isnd X val [(m, v)]) :=
  EV.by (pe_oneM hu pwe pwe) fun H1 e1 Q k => fun d ob hn hd => by
    have n1 : Ext H1 (upd H1 d ob) := Ext.new hn
    refine ha _ (e1.trans n1) _ fun x H2 e2 r2 => hb H2 ((e1.trans n1).trans e2) _ fun y H3 e3 r3 => ⟨m, TD.mono r2 e3.tk, hd.ext (e2.trans e3), fun ob' hd' t => ?_⟩
    exact k _ _ (((n1.trans e2).trans e3).mut hn) ⟨d, rfl, hn, _, hd', .cons ⟨rfl, TD.mono r3 t⟩ .nil⟩
/-- list(more) -/
theorem v_listM (hm : X.mg "list" = none) (ha : EV X σ H a (isr (.ref d))) (hd : DV X.prog X.w X.K val H d F) (hc : X.calm = true := by rfl) (hg : Gl X "list" := by rfl) (he : starEach [a] X.env = (false, eval a X.env) :: starEach [] X.env := by rfl) (hpl : (backTo pos (starEach [] X.env)).any (·.1) = false := by rfl) :
    EV X σ H (.Call (.Name "list" p) [a] [] pos) (isn X (F.map fun q => chd q.1)) :=
  EV.by (pe_callTy (call_listM hc) hg hm boot_list (pa_cons pwe pa_nil he) (by decide) (by decide) he hpl) fun H1 e1 Q k => ha H1 e1 _ fun v H2 e2 r => by
    obtain ⟨kvs, h1, h2⟩ := hd.ext (e1.trans e2)
    refine ⟨d, kvs, by rw [show v = .ref d from r], h1, fun l ys hl ht => k _ _ (e2.trans (Ext.new hl)) ⟨l, ys, rfl, e2.free hl, upd_same, ?_⟩⟩
    have : kvs.map (fun p => chd p.1) = F.map fun q => chd q.1 := by
      have := congrArg (List.map chd) (pair_keys h2)
      rw [List.map_map, List.map_map] at this
      exact this
    rw [this] at ht
    exact ht.mono (Ext.new hl).tk
theorem v_listNM (hm : X.mg "list" = none) (ha : EV X σ H a (isnd X val F)) (hc : X.calm = true := by rfl) (hg : Gl X "list" := by rfl) (he : starEach [a] X.env = (false, eval a X.env) :: starEach [] X.env := by rfl) (hpl : (backTo pos (starEach [] X.env)).any (·.1) = false := by rfl) :
    EV X σ H (.Call (.Name "list" p) [a] [] pos) (isn X (F.map fun q => chd q.1)) :=
  EV.by (pe_callTy (call_listM hc) hg hm boot_list (pa_cons pwe pa_nil he) (by decide) (by decide) he hpl) fun H1 e1 Q k => ha H1 e1 _ fun v H2 e2 ⟨d, ev, _, hd⟩ => by
    obtain ⟨kvs, h1, h2⟩ := hd
    refine ⟨d, kvs, by rw [ev], h1, fun l ys hl ht => k _ _ (e2.trans (Ext.new hl)) ⟨l, ys, rfl, e2.free hl, upd_same, ?_⟩⟩
    have : kvs.map (fun p => chd p.1) = F.map fun q => chd q.1 := by
      have := congrArg (List.map chd) (pair_keys h2)
      rw [List.map_map, List.map_map] at this
      exact this
    rw [this] at ht
    exact ht.mono (Ext.new hl).tk
end
end SL

/-! plain: the two searches for least labels, and that they end -/
namespace SL
section
variable {α : Type} [DecidableEq α]
def relaxF (v : Lab) (st : List (α × Lab) × List (α × Unit)) (e : α × Nat) : List (α × Lab) × List (α × Unit) :=
  if betterB st.1 e.1 (part v e.2) = true then (putB st.1 e.1 (part v e.2), putB st.2 e.1 ()) else st
def hereF (out : α → List (α × Nat)) (st : List (α × Lab) × List (α × Unit)) (m : α) : List (α × Lab) × List (α × Unit) := (out m).foldl (relaxF ((getB st.1 m).getD (0, 0))) st
def roundF (out : α → List (α × Nat)) (F : List (α × Lab)) (B : List α) : List (α × Lab) × List (α × Unit) := B.foldl (hereF out) (F, [])
inductive EndsT (out : α → List (α × Nat)) (R : List (α × Lab)) : Nat → List (α × Lab) → List α → Prop
  | zero : EndsT out R 0 R []
  | succ {n : Nat} {F : List (α × Lab)} {B : List α} : B ≠ [] → EndsT out R n (roundF out F B).1 (keysB (roundF out F B).2) → EndsT out R (n + 1) F B
def relaxL (m : α) (st : List (α × Lab) × Bool) (e : α × Nat) : List (α × Lab) × Bool :=
  if betterB st.1 e.1 (part ((getB st.1 m).getD (0, 0)) e.2) = true then (putB st.1 e.1 (part ((getB st.1 m).getD (0, 0)) e.2), true) else st
def hereL (out : α → List (α × Nat)) (st : List (α × Lab) × Bool) (m : α) : List (α × Lab) × Bool := if (getB st.1 m).isSome = true then (out m).foldl (relaxL m) st else st
def sweepL (out : α → List (α × Nat)) (E : List α) (F : List (α × Lab)) : List (α × Lab) × Bool := E.foldl (hereL out) (F, false)
inductive EndsL (out : α → List (α × Nat)) (E : List α) : Nat → List (α × Lab) → Bool → Prop
  | zero (F : List (α × Lab)) : EndsL out E 0 F false
  | succ {n : Nat} {F : List (α × Lab)} : EndsL out E n (sweepL out E F).1 (sweepL out E F).2 → EndsL out E (n + 1) F true

theorem better_put {F : List (α × Lab)} {k x : α} {v q : Lab} (h : betterB F x q = false) (hb : betterB F k v = true) : betterB (putB F k v) x q = false := by
  unfold betterB at h ⊢
  rw [getB_put]
  by_cases e1 : x = k
  · rw [if_pos e1]
    rw [e1] at h
    unfold betterB at hb
    cases hq : getB F k with
    | none => simp [hq] at h
    | some w =>
      rw [hq] at h hb
      have h : ltL q w = false := h
      have hb : ltL v w = true := hb
      show ltL q v = false
      rw [ltL_not] at h ⊢
      rw [ltL_iff] at hb
      omega
  · rw [if_neg e1]
    exact h
theorem better_self {F : List (α × Lab)} {k : α} {v : Lab} : betterB (putB F k v) k v = false := by
  unfold betterB
  rw [getB_put, if_pos rfl]
  show ltL v v = false
  rw [ltL_not]
  exact .inr ⟨rfl, Nat.le_refl _⟩
/-- what is known of the graph: the ways from s stay in U, no edge leads to its own place -/
structure Gr (out : α → List (α × Nat)) (s : α) (U : List α) : Prop where
  un : ∀ m v, Way out s m v → m ∈ U
  ne : ∀ m v e, Way out s m v → e ∈ out m → e.1 ≠ m
structure TI (out : α → List (α × Nat)) (s : α) (F : List (α × Lab)) (B : List α) : Prop where
  good : Good out s F
  bs : ∀ m, m ∈ B → (getB F m).isSome = true
  cl : ∀ m, m ∈ B ∨ Closed out F m
  bn : B.Nodup
theorem Good.len {out : α → List (α × Nat)} {s : α} {U : List α} {F : List (α × Lab)} (g : Good out s F) (G : Gr out s U) : F.length ≤ U.length := by
  have := nodup_len (S := U) g.nd fun k hk => by
    obtain ⟨v, hv⟩ := Option.isSome_iff_exists.mp (mem_keys.mp hk)
    exact G.un k v (g.snd k v hv)
  rw [keysB, List.length_map] at this
  exact this
variable {out : α → List (α × Nat)} {s : α} {U : List α}
/-- inside a round: E still to be asked, M new -/
structure RI (out : α → List (α × Nat)) (s : α) (U : List α) (F0 : List (α × Lab)) (E : α → Prop) (F : List (α × Lab)) (M : List (α × Unit)) : Prop where
  good : Good out s F
  nd : (keysB M).Nodup
  ms : ∀ m, m ∈ keysB M → (getB F m).isSome = true
  cl : ∀ m, E m ∨ m ∈ keysB M ∨ Closed out F m
  mu : (F = F0 ∧ M = []) ∨ muR (muL U F) (muL U F0)
  up : ∀ m, (getB F0 m).isSome = true → (getB F m).isSome = true
theorem muR_trans {a b c : Nat × Nat × Nat} (h : muR a b) (h2 : muR b c) : muR a c := by
  obtain ⟨a1, a2, a3⟩ := a
  obtain ⟨b1, b2, b3⟩ := b
  obtain ⟨c1, c2, c3⟩ := c
  unfold muR at *
  rw [Prod.lex_def, Prod.lex_def] at *
  simp only at *
  omega
theorem relax_inv (G : Gr out s U) {F0 : List (α × Lab)} {E : α → Prop} {m : α} {v : Lab} : ∀ (es dn : List (α × Nat)) (F : List (α × Lab)) (M : List (α × Unit)), (∀ e, e ∈ es → e ∈ out m) → RI out s U F0 (fun x => x = m ∨ E x) F M → getB F m = some v →
    (∀ e, e ∈ dn → betterB F e.1 (part v e.2) = false) →
    RI out s U F0 (fun x => x = m ∨ E x) (es.foldl (relaxF v) (F, M)).1 (es.foldl (relaxF v) (F, M)).2 ∧ getB (es.foldl (relaxF v) (F, M)).1 m = some v ∧ ∀ e, e ∈ dn ++ es → betterB (es.foldl (relaxF v) (F, M)).1 e.1 (part v e.2) = false
  | [], dn, F, M, _, r, hm, hd => ⟨r, hm, fun e he => hd e (by simpa using he)⟩
  | e :: es, dn, F, M, hes, r, hm, hd => by
    have heo := hes e List.mem_cons_self
    have hw := r.good.snd m v hm
    rw [List.foldl_cons]
    by_cases hb : betterB F e.1 (part v e.2) = true
    · have hst : relaxF v (F, M) e = (putB F e.1 (part v e.2), putB M e.1 ()) := if_pos hb
      rw [hst]
      have hne : e.1 ≠ m := G.ne m v e hw heo
      have hU : e.1 ∈ U := G.un e.1 _ (Way.step (t := v.1) (n := v.2) (w := e.2) hw heo)
      have := relax_inv (v := v) (E := E) (F0 := F0) (m := m) G es (dn ++ [e]) (putB F e.1 (part v e.2)) (putB M e.1 ()) (fun x hx => hes x (List.mem_cons_of_mem _ hx)) ⟨r.good.put hm heo hb, nodup_put r.nd _ _, fun x hx => ?_, fun x => ?_, .inr ?_, fun x hx => ?_⟩ ?_ ?_
      · refine ⟨this.1, this.2.1, fun x hx => this.2.2 x (by simpa using hx)⟩
      · rw [getB_put]
        split
        · rfl
        · rename_i hxe
          refine r.ms x ?_
          rw [keys_put] at hx
          split at hx
          · exact hx
          · rcases List.mem_append.mp hx with hx | hx
            · exact hx
            · exact absurd (by simpa using hx) hxe
      · have hk : ∀ x, x ∈ keysB M → x ∈ keysB (putB M e.1 ()) := fun x hx => by
          rw [keys_put]
          split
          · exact hx
          · exact List.mem_append_left _ hx
        rcases r.cl x with h | h | h
        · exact .inl h
        · exact .inr (.inl (hk x h))
        · by_cases hx : x = e.1
          · refine .inr (.inl ?_)
            rw [hx, mem_keys, getB_put, if_pos rfl]
            rfl
          · exact .inr (.inr (h.put hx hb))
      · have hmu := mu_put (U := U) hU hb
        rcases r.mu with ⟨h1, _⟩ | h1
        · rw [← h1]; exact hmu
        · exact muR_trans hmu h1
      · rw [getB_put]
        split
        · rfl
        · exact r.up x hx
      · rw [getB_put, if_neg (Ne.symm hne)]
        exact hm
      · intro x hx
        rcases List.mem_append.mp hx with hx | hx
        · exact better_put (hd x hx) hb
        · rw [show x = e by simpa using hx]
          exact better_self
    · have hst : relaxF v (F, M) e = (F, M) := if_neg hb
      rw [hst]
      have := relax_inv (v := v) (E := E) (F0 := F0) (m := m) G es (dn ++ [e]) F M (fun x hx => hes x (List.mem_cons_of_mem _ hx)) r hm fun x hx => by
        rcases List.mem_append.mp hx with hx | hx
        · exact hd x hx
        · rw [show x = e by simpa using hx]
          simpa using hb
      exact ⟨this.1, this.2.1, fun x hx => this.2.2 x (by simpa using hx)⟩
theorem here_inv (G : Gr out s U) {F0 : List (α × Lab)} {E : α → Prop} {m : α} {st : List (α × Lab) × List (α × Unit)} (r : RI out s U F0 (fun x => x = m ∨ E x) st.1 st.2) (hm : (getB st.1 m).isSome = true) : RI out s U F0 E (hereF out st m).1 (hereF out st m).2 := by
  obtain ⟨v, hv⟩ := Option.isSome_iff_exists.mp hm
  have h := relax_inv (v := v) G (out m) [] st.1 st.2 (fun e he => he) r hv (fun e he => by cases he)
  unfold hereF
  rw [hv]
  refine ⟨h.1.good, h.1.nd, h.1.ms, fun x => ?_, h.1.mu, h.1.up⟩
  rcases h.1.cl x with (e | e) | e | e
  · right; right
    intro u hu e' he'
    rw [e] at hu he'
    rw [show getB (List.foldl (relaxF ((some v).getD (0, 0))) st (out m)).1 m = some v from h.2.1] at hu
    cases hu
    exact h.2.2 e' (by simpa using he')
  · exact .inl e
  · exact .inr (.inl e)
  · exact .inr (.inr e)
theorem round_inv (G : Gr out s U) {F0 : List (α × Lab)} : ∀ (B : List α) (st : List (α × Lab) × List (α × Unit)), RI out s U F0 (fun x => x ∈ B) st.1 st.2 → (∀ m, m ∈ B → (getB F0 m).isSome = true) → RI out s U F0 (fun _ => False) (B.foldl (hereF out) st).1 (B.foldl (hereF out) st).2
  | [], st, r, _ => ⟨r.good, r.nd, r.ms, fun m => (r.cl m).imp_left (fun h => by cases h), r.mu, r.up⟩
  | m :: B, st, r, hB => by
    rw [List.foldl_cons]
    refine round_inv G B _ (here_inv G (m := m) ⟨r.good, r.nd, r.ms, fun x => (r.cl x).imp_left fun h => List.mem_cons.mp h, r.mu, r.up⟩ (r.up m (hB m List.mem_cons_self))) fun x hx => hB x (List.mem_cons_of_mem _ hx)
theorem TI.round (G : Gr out s U) {F : List (α × Lab)} {B : List α} (t : TI out s F B) : TI out s (roundF out F B).1 (keysB (roundF out F B).2) ∧ ((roundF out F B).2 = [] ∨ muR (muL U (roundF out F B).1) (muL U F)) := by
  have r := round_inv G (F0 := F) B (F, []) ⟨t.good, (by simp [keysB]), (fun m hm => by simp [keysB] at hm), fun m => (t.cl m).imp_right .inr, .inl ⟨rfl, rfl⟩, fun _ h => h⟩ t.bs
  refine ⟨⟨r.good, r.ms, fun m => ?_, r.nd⟩, ?_⟩
  · rcases r.cl m with h | h | h
    · exact h.elim
    · exact .inl h
    · exact .inr h
  · rcases r.mu with h | h
    · exact .inl h.2
    · exact .inr h
theorem ends_T (G : Gr out s U) : ∀ (a : Nat × Nat × Nat) (F : List (α × Lab)) (B : List α), muL U F = a → TI out s F B → ∃ R n, EndsT out R n F B ∧ Good out s R ∧ ∀ m, Closed out R m := by
  intro a
  induction muR_wf.apply a with
  | intro a _ ih =>
    intro F B e t
    by_cases hB : B = []
    · subst hB
      exact ⟨F, 0, .zero, t.good, fun m => (t.cl m).resolve_left (by simp)⟩
    · obtain ⟨t2, h⟩ := t.round G
      rcases h with h | h
      · refine ⟨_, 1, .succ hB ?_, t2.good, fun m => (t2.cl m).resolve_left (by rw [h]; simp [keysB])⟩
        rw [h]
        exact .zero
      · obtain ⟨R, n, hn, g⟩ := ih (muL U (roundF out F B).1) (by rw [← e]; exact h) _ _ rfl t2
        exact ⟨R, n + 1, .succ hB hn, g⟩

/-! ### the other search -/
structure LI (out : α → List (α × Nat)) (s : α) (U : List α) (F0 F : List (α × Lab)) (q : Bool) (C : α → Prop) : Prop where
  good : Good out s F
  q0 : q = false → F = F0
  cl : q = false → ∀ m, C m → Closed out F m
  mu : q = true → muR (muL U F) (muL U F0)
theorem relaxL_inv (G : Gr out s U) {F0 : List (α × Lab)} {C : α → Prop} {m : α} {v : Lab} : ∀ (es dn : List (α × Nat)) (F : List (α × Lab)) (q : Bool), (∀ e, e ∈ es → e ∈ out m) → LI out s U F0 F q C → getB F m = some v → (q = false → ∀ e, e ∈ dn → betterB F e.1 (part v e.2) = false) →
    LI out s U F0 (es.foldl (relaxL m) (F, q)).1 (es.foldl (relaxL m) (F, q)).2 C ∧ getB (es.foldl (relaxL m) (F, q)).1 m = some v ∧ ((es.foldl (relaxL m) (F, q)).2 = false → ∀ e, e ∈ dn ++ es → betterB (es.foldl (relaxL m) (F, q)).1 e.1 (part v e.2) = false)
  | [], dn, F, q, _, r, hm, hd => ⟨r, hm, fun h e he => hd h e (by simpa using he)⟩
  | e :: es, dn, F, q, hes, r, hm, hd => by
    have heo := hes e List.mem_cons_self
    have hw := r.good.snd m v hm
    rw [List.foldl_cons]
    by_cases hb : betterB F e.1 (part v e.2) = true
    · have hst : relaxL m (F, q) e = (putB F e.1 (part v e.2), true) := by
        unfold relaxL
        simp only [hm, Option.getD_some]
        rw [if_pos hb]
      rw [hst]
      have hne : e.1 ≠ m := G.ne m v e hw heo
      have hU : e.1 ∈ U := G.un e.1 _ (Way.step (t := v.1) (n := v.2) (w := e.2) hw heo)
      have := relaxL_inv (v := v) (m := m) G es (dn ++ [e]) (putB F e.1 (part v e.2)) true (C := C) (F0 := F0) (fun x hx => hes x (List.mem_cons_of_mem _ hx)) ⟨r.good.put hm heo hb, (fun h => by cases h), (fun h => by cases h), fun _ => ?_⟩ ?_ (fun h => by cases h)
      · exact ⟨this.1, this.2.1, fun h x hx => this.2.2 h x (by simpa using hx)⟩
      · have hmu := mu_put (U := U) hU hb
        cases hq : q with
        | false => rw [← r.q0 hq]; exact hmu
        | true => exact muR_trans hmu (r.mu hq)
      · rw [getB_put, if_neg (Ne.symm hne)]
        exact hm
    · have hst : relaxL m (F, q) e = (F, q) := by
        unfold relaxL
        simp only [hm, Option.getD_some]
        rw [if_neg hb]
      rw [hst]
      have := relaxL_inv (v := v) (m := m) G es (dn ++ [e]) F q (C := C) (F0 := F0) (fun x hx => hes x (List.mem_cons_of_mem _ hx)) r hm fun h x hx => by
        rcases List.mem_append.mp hx with hx | hx
        · exact hd h x hx
        · rw [show x = e by simpa using hx]
          simpa using hb
      exact ⟨this.1, this.2.1, fun h x hx => this.2.2 h x (by simpa using hx)⟩
theorem sweep_inv (G : Gr out s U) {F0 : List (α × Lab)} : ∀ (E : List α) (C : α → Prop) (st : List (α × Lab) × Bool), LI out s U F0 st.1 st.2 C → LI out s U F0 (E.foldl (hereL out) st).1 (E.foldl (hereL out) st).2 (fun x => C x ∨ x ∈ E)
  | [], C, st, r => ⟨r.good, r.q0, fun h m hm => r.cl h m (hm.elim id fun z => by cases z), r.mu⟩
  | m :: E, C, st, r => by
    rw [List.foldl_cons]
    have key : LI out s U F0 (hereL out st m).1 (hereL out st m).2 (fun x => C x ∨ x = m) := by
      unfold hereL
      by_cases hm : (getB st.1 m).isSome = true
      · rw [if_pos hm]
        obtain ⟨v, hv⟩ := Option.isSome_iff_exists.mp hm
        have h := relaxL_inv G (out m) [] st.1 st.2 (fun e he => he) r hv (fun _ e he => by cases he)
        refine ⟨h.1.good, h.1.q0, fun hq x hx => ?_, h.1.mu⟩
        rcases hx with hx | hx
        · exact h.1.cl hq x hx
        · intro u hu e he
          rw [hx] at hu he
          rw [show getB ((out m).foldl (relaxL m) st).1 m = some v from h.2.1] at hu
          cases hu
          exact h.2.2 hq e (by simpa using he)
      · rw [if_neg hm]
        refine ⟨r.good, r.q0, fun hq x hx => ?_, r.mu⟩
        rcases hx with hx | hx
        · exact r.cl hq x hx
        · intro u hu
          rw [hx] at hu
          rw [hu] at hm
          exact absurd rfl hm
    have := sweep_inv G E _ _ key
    refine ⟨this.good, this.q0, fun hq x hx => this.cl hq x ?_, this.mu⟩
    rcases hx with hx | hx
    · exact .inl (.inl hx)
    · rcases List.mem_cons.mp hx with hx | hx
      · exact .inl (.inr hx)
      · exact .inr hx
theorem Good.sweep (G : Gr out s U) {F : List (α × Lab)} (g : Good out s F) (E : List α) : Good out s (sweepL out E F).1 ∧ ((sweepL out E F).2 = false → ∀ m, m ∈ E → Closed out (sweepL out E F).1 m) ∧ ((sweepL out E F).2 = true → muR (muL U (sweepL out E F).1) (muL U F)) := by
  have := sweep_inv G (F0 := F) E (fun _ => False) (F, false) ⟨g, fun _ => rfl, fun _ m hm => hm.elim, (fun h => by cases h)⟩
  exact ⟨this.good, fun h m hm => this.cl h m (.inr hm), this.mu⟩
theorem ends_L (G : Gr out s U) (E : List α) : ∀ (a : Nat × Nat × Nat) (F : List (α × Lab)), muL U F = a → Good out s F → ∃ n, EndsL out E n F true := by
  intro a
  induction muR_wf.apply a with
  | intro a _ ih =>
    intro F e g
    obtain ⟨g2, _, h⟩ := g.sweep G E
    cases hq : (sweepL out E F).2 with
    | false =>
      refine ⟨1, .succ ?_⟩
      rw [hq]
      exact .zero _
    | true =>
      obtain ⟨n, hn⟩ := ih (muL U (sweepL out E F).1) (by rw [← e]; exact h hq) _ rfl g2
      exact ⟨n + 1, .succ (by rw [hq]; exact hn)⟩
theorem TI.start {s : α} (h : ∀ m e, e ∈ out m → True) : TI out s [(s, (0, 0))] [s] where
  good := ⟨by simp [keysB], by rw [getB_cons, if_pos rfl], fun k v hk => by
    rw [getB_cons] at hk
    split at hk
    · rename_i e
      cases hk
      have e : s = k := e
      rw [← e]
      exact .refl
    · cases hk⟩
  bs := fun m hm => by
    rw [List.mem_singleton.mp hm, getB_cons, if_pos rfl]
    rfl
  cl := fun m => by
    by_cases e : m = s
    · exact .inl (by simp [e])
    · right
      intro v hv
      rw [getB_cons, if_neg (fun z => e (Eq.symm z))] at hv
      cases hv
  bn := by simp
end
end SL

set_option maxHeartbeats 4000000
/-! walk: turns_from -/
namespace SL
open PySem PySem.Spec PyProof.Rows L2 GxR GX StX

def thereM (m : Map) (t : Nat × Nat) : Map := (m.1, m.2.set t.2 t.1)
def stepN (t : Nat × Nat) : Nat := if t.2 = 0 then 1 else 0
def outM (A L k : Nat) (m : Map) : List (Map × Nat) := (takF A L k m.2).map fun t => (thereM m t, stepN t)
/-- the graph of a map's takings is known to be small -/
structure GrW (A L k : Nat) (s : Map) (U : List Map) : Prop where
  gr : Gr (outM A L k) s U
  ul : U.length + 1 < 16777216
  wf : ∀ m v, Way (outM A L k) s m v → m.1 = A ∧ Wf A L k m.2
theorem tak_lt {A L k : Nat} {cs : List Nat} {t : Nat × Nat} (h : t ∈ takF A L k cs) : t.2 < cs.length ∧ t.1 < k := by
  unfold takF at h
  obtain ⟨l, hl, h⟩ := List.mem_flatMap.mp h
  obtain ⟨c, hc, rfl⟩ := List.mem_map.mp h
  exact ⟨List.mem_range.mp (List.mem_filter.mp hc).1, List.mem_range.mp hl⟩
section
variable {X : Cx} {σ : L2.St} {H : Hp} {a b : Expr} {pos : Pos}
/-- pairs compared -/
theorem lex_ltL (p q : Lab) : HT.lexLt [(p.1 : Int), (p.2 : Int)] [(q.1 : Int), (q.2 : Int)] = ltL p q := by
  rw [Bool.eq_iff_iff, ltL_iff]
  simp only [HT.lexLt]
  by_cases h1 : (p.1 : Int) = (q.1 : Int)
  · have h1' : p.1 = q.1 := Int.ofNat.inj h1
    by_cases h2 : (p.2 : Int) = (q.2 : Int)
    · have h2' : p.2 = q.2 := Int.ofNat.inj h2
      simp [h1', h2']
    · simp [h1', h2]
  · simp [h1]
    omega
theorem t_ltP {p q : Lab} (hu : X.A.units < cLine) (ha : EV X σ H a (isd X (tkd p))) (hb : EV X σ H b (isd X (tkd q))) : ET X σ H (.Compare a [.Lt] [b] pos) (ltL p q) :=
  et_cmp (op_ltT hu) ha hb (fun H0 H1 H2 x y _ _ e2 r1 r2 Q k => by
    obtain ⟨s, rfl, h1⟩ := tkd_inv r1
    obtain ⟨t, rfl, h2⟩ := tkd_inv r2
    refine ⟨s, t, [(p.1 : Int), (p.2 : Int)], [(q.1 : Int), (q.2 : Int)], rfl, rfl, e2.tk.sq h1, h2, ?_⟩
    rw [lex_ltL]
    exact k) (nomark _)
end
def moreV : Unit → Dat := fun _ => .bl true
section
variable {P : Program} {w : World} {K : PySem.W.Frag} {mg : Str → Option Value} {base : Heap}
def spTurns (P : Program) (w : World) (K : PySem.W.Frag) (T : List Addr) : Sp := fun vs H Q _ => Tabs T H ∧ ∃ (A L k : Nat) (cs : List Nat) (U : List Map) (v : V) (R : List (Map × Lab)) (n : Nat), vs = [v] ∧ TD K H v (chd (A, cs)) ∧ Wf A L k cs ∧ GrW A L k (A, cs) U ∧ EndsT (outM A L k) R n [((A, cs), (0, 0))] [(A, cs)] ∧
  ∀ d H', Ext H H' → H d = none → DV P w K tkd H' d R → Q (.ref d) H'
theorem ok_turns_from {f : Addr} {fd : FuncData} {T : List Addr} (F : Fun K "turns_from" "turns_from" t_turns_from f fd) (B : Bt mg) (At : Clb P w K mg base 4 "all_takings" (spR K T allS)) (Tk' : Clb P w K mg base 1 "taken" (spR K T tknS)) :
    FnOk P w K mg base CX0 5 f fd p_turns_from (spTurns P w K T) := by
  refine okW F sc_turns_from (fun vs H Q E h => ?_) (fun cdv Ar outer s H vs Q E hcd hr h => ?_)
  · obtain ⟨_, A, L, k, cs, U, v, R, n, rfl, _⟩ := h
    rfl
  · obtain ⟨hT, A, L, k, cs, U, a, Rs, n0, rfl, a1, W, G, hn0, hq⟩ := h
    have nd := sc_turns_from.nd
    have hu : (Ar.deeper (envOfC "turns_from" (defScope t_turns_from) s.heap.objs.size f cdv)).units + 20 < cLine := by have := hr.un; omega
    refine b_par 1 2 (v_oneM (val := tkd) (v := ((0, 0) : Lab)) hu (v_n 0 rfl a1) (v_tup (ds := [SL.nd 0, SL.nd 0]) (a_d (v_num (n := 0)) (a_d (v_num (n := 0)) a_nil)) (by simp [sizeLine_eq]))) (v_lst (ds := [chd (A, cs)]) (a_d (v_n 0 rfl a1) a_nil) (by simp [sizeLine_eq])) fun v w' H1 H2 e1 e2 r1 r2 => ?_
    obtain ⟨d, rfl, hd0, hd1⟩ := r1
    obtain ⟨pb, xs, rfl, hb0, hb1, hb2⟩ := r2
    refine b_while (fun m σ H' => ∃ (F : List (Map × Lab)) (Bl : List Map) (pb : Addr) (xs : List V) (o3 o4 o5 o6 o7 o8 o9 : Option V), σ = [some a, some (.ref d), some (.ref pb), o3, o4, o5, o6, o7, o8, o9] ∧ Ext H H' ∧ DV P w K tkd H' d F ∧ H' pb = some (.lst xs) ∧ TDs K H' xs (Bl.map chd) ∧
      EndsT (outM A L k) Rs m F Bl ∧ TI (outM A L k) (A, cs) F Bl) ⟨n0, [((A, cs), (0, 0))], [(A, cs)], pb, xs, none, none, none, none, none, none, none, rfl, e1.trans e2, hd1.ext e2, hb1, hb2, hn0, TI.start fun _ _ _ => trivial⟩ ?_
    rintro m σ H3 ⟨F, Bl, pb, xs, o3, o4, o5, o6, o7, o8, o9, rfl, e3, hd3, hb3, hx3, hend, ti⟩
    refine ⟨!(Bl.map chd).isEmpty, t_lst (v_l 2 rfl (SqL.of hb3) hx3), fun hz H4 e4 => ?_, fun hz H4 e4 => ?_⟩
    · have hBne : Bl ≠ [] := by simpa using hz
      cases hend with
      | zero => exact absurd rfl hBne
      | @succ n _ _ _ hnext =>
      refine b_set 3 (v_newM (val := moreV)) fun v H5 e5 r5 => ?_
      obtain ⟨dm, rfl, hm0, hm1⟩ := r5
      have e35 := e4.trans e5
      have hd5 := hd3.ext e35
      have hb5 := e35.lst hb3
      have hx5 := hx3.mono e35.tk
      have e05 := e3.trans e35
      have ndm : dm ≠ d := fun z => by
        obtain ⟨f, h⟩ := (hd3.ext e4).some
        rw [z, h] at hm0
        cases hm0
      have hHm : H dm = none := (e3.trans e4).free hm0
      refine b_forL (ds := Bl.map chd) (R := isr (.ref pb)) 4 (v_r 2 rfl) fun v H6 e6 rv => ⟨pb, xs, fun i σ' H' => ∃ (o4 o5 o6 o7 o8 o9 : Option V), σ' = [some a, some (.ref d), some (.ref pb), some (.ref dm), o4, o5, o6, o7, o8, o9] ∧ Ext H H' ∧ H' pb = some (.lst xs) ∧ TDs K H' xs (Bl.map chd) ∧
          DV P w K tkd H' d ((Bl.take i).foldl (hereF (outM A L k)) (F, [])).1 ∧ DV P w K moreV H' dm ((Bl.take i).foldl (hereF (outM A L k)) (F, [])).2 ∧
          RI (outM A L k) (A, cs) U F (fun x => x ∈ Bl.drop i) ((Bl.take i).foldl (hereF (outM A L k)) (F, [])).1 ((Bl.take i).foldl (hereF (outM A L k)) (F, [])).2,
        rv, SqL.of (e6.lst hb5), hx5.mono e6.tk, ⟨o4, o5, o6, o7, o8, o9, rfl, e05.trans e6, e6.lst hb5, hx5.mono e6.tk, hd5.ext e6, hm1.ext e6, ?_⟩, ?_, ?_, ?_⟩
      · exact ⟨ti.good, (by simp [keysB]), (fun m hm => by simp [keysB] at hm), fun m => (ti.cl m).imp_right .inr, .inl ⟨rfl, rfl⟩, fun _ h => h⟩
      · rintro i σ' H' ⟨_, _, _, _, _, _, _, _, h1, h2, _⟩
        exact ⟨SqL.of h1, h2⟩
      · rintro i dd v σ' H7 hd hv ⟨o4, o5, o6, o7, o8, o9, rfl, e7, hb7, hx7, hd7, hm7, ri⟩
        obtain ⟨here, hh, rfl⟩ : ∃ here, Bl[i]? = some here ∧ dd = chd here := by
          rw [List.getElem?_map] at hd
          cases e : Bl[i]? with
          | none => rw [e] at hd; cases hd
          | some n => rw [e] at hd; exact ⟨n, rfl, (Option.some.inj hd).symm⟩
        have hi : i < Bl.length := (List.getElem?_eq_some_iff.mp hh).1
        have hdrop : Bl.drop i = here :: Bl.drop (i + 1) := by
          rw [List.drop_eq_getElem_cons hi]
          congr 1
          rw [List.getElem?_eq_getElem hi] at hh
          exact Option.some.inj hh
        have htake : (Bl.take (i + 1)).foldl (hereF (outM A L k)) (F, []) = hereF (outM A L k) ((Bl.take i).foldl (hereF (outM A L k)) (F, [])) here := by
          rw [List.take_add_one, hh, List.foldl_append]
          rfl
        have hmF : (getB F here).isSome = true := ti.bs here (List.mem_of_getElem? hh)
        have hri := here_inv G.gr (E := fun x => x ∈ Bl.drop (i + 1)) (m := here) ⟨ri.good, ri.nd, ri.ms, fun x => (ri.cl x).imp_left (fun h => by rw [hdrop] at h; exact List.mem_cons.mp h), ri.mu, ri.up⟩ (ri.up here hmF)
        dsimp only
        rw [htake]
        generalize hst : (Bl.take i).foldl (hereF (outM A L k)) (F, []) = st at ri hd7 hm7 hri ⊢
        obtain ⟨lab, hlab⟩ := Option.isSome_iff_exists.mp (ri.up here hmF)
        obtain ⟨hA, Wh⟩ := G.wf here lab (ri.good.snd here lab hlab)
        obtain ⟨A', ch⟩ := here
        have hA : A' = A := hA
        subst hA
        have Wh : Wf A' L k ch := Wh
        have hST : hereF (outM A' L k) st (A', ch) = (outM A' L k (A', ch)).foldl (relaxF lab) st := by
          unfold hereF
          rw [hlab]
          rfl
        rw [hST] at hri ⊢
        have ri' : RI (outM A' L k) (A', cs) U F (fun x => x = ((A', ch) : Map) ∨ x ∈ Bl.drop (i + 1)) st.1 st.2 := ⟨ri.good, ri.nd, ri.ms, fun x => (ri.cl x).imp_left (fun h => by rw [hdrop] at h; exact List.mem_cons.mp h), ri.mu, ri.up⟩
        refine b_unp 6 7 (d1 := SL.nd lab.1) (d2 := SL.nd lab.2) (v_getM (val := tkd) (v := lab) hu (v_r 1 rfl) (v_n 4 rfl hv) hd7 hlab) fun u1 u2 H8 e8 t1 t2 => ?_
        cases t1
        cases t2
        refine b_forL (ds := (takF A' L k ch).map tkd) 5 (v_clL At hr (hT.ext (e7.trans e8)) (a_d (v_n 4 rfl (hv.mono e8.tk)) a_nil) ⟨A', L, k, ch, rfl, Wh, rfl⟩) fun v1 H9 e9 ⟨pn, ys, hv1, hn0, hn1, hn2⟩ => ?_
        have e79 := e8.trans e9
        have npn : ∀ {q : Addr} {o : HO}, H8 q = some o → pn ≠ q := fun h z => by
          rw [z, h] at hn0
          cases hn0
        refine ⟨pn, ys, fun j σ' H' => ∃ (o5 o8 o9 : Option V), σ' = [some a, some (.ref d), some (.ref pb), some (.ref dm), some v, o5, some (.int (lab.1 : Nat)), some (.int (lab.2 : Nat)), o8, o9] ∧ Ext H H' ∧ H' pb = some (.lst xs) ∧ TDs K H' xs (Bl.map chd) ∧ TD K H' v (chd (A', ch)) ∧
            H' pn = some (.lst ys) ∧ TDs K H' ys ((takF A' L k ch).map tkd) ∧
            DV P w K tkd H' d (((outM A' L k (A', ch)).take j).foldl (relaxF lab) st).1 ∧ DV P w K moreV H' dm (((outM A' L k (A', ch)).take j).foldl (relaxF lab) st).2,
          hv1, SqL.of hn1, hn2, ⟨_, _, _, rfl, e7.trans e79, e79.lst hb7, hx7.mono e79.tk, hv.mono e79.tk, hn1, hn2, hd7.ext e79, hm7.ext e79⟩, ?_, ?_, ?_⟩
        · rintro j σ' H' ⟨_, _, _, _, _, _, _, _, h1, h2, _⟩
          exact ⟨SqL.of h1, h2⟩
        · rintro j dd tv σ' H10 hdd htv ⟨o5, o8, o9, rfl, e10, hb10, hx10, hv10, hn10, hy10, hd10, hm10⟩
          obtain ⟨tk, htk, rfl⟩ : ∃ tk, (takF A' L k ch)[j]? = some tk ∧ dd = tkd tk := by
            rw [List.getElem?_map] at hdd
            cases e : (takF A' L k ch)[j]? with
            | none => rw [e] at hdd; cases hdd
            | some n => rw [e] at hdd; exact ⟨n, rfl, (Option.some.inj hdd).symm⟩
          have htm : tk ∈ takF A' L k ch := List.mem_of_getElem? htk
          have hlt := tak_lt htm
          have hee : (outM A' L k (A', ch))[j]? = some (thereM (A', ch) tk, stepN tk) := by
            unfold outM
            rw [List.getElem?_map, htk]
            rfl
          have htk1 : ((outM A' L k (A', ch)).take (j + 1)).foldl (relaxF lab) st = relaxF lab (((outM A' L k (A', ch)).take j).foldl (relaxF lab) st) (thereM (A', ch) tk, stepN tk) := by
            rw [List.take_add_one, hee, List.foldl_append]
            rfl
          have rj := (relax_inv (v := lab) (m := ((A', ch) : Map)) G.gr ((outM A' L k (A', ch)).take j) [] st.1 st.2 (fun e he => List.mem_of_mem_take he) ri' hlab (fun e he => by cases he)).1
          dsimp only
          rw [htk1]
          have hrj : RI (outM A' L k) (A', cs) U F (fun x => x = ((A', ch) : Map) ∨ x ∈ Bl.drop (i + 1)) (((outM A' L k (A', ch)).take j).foldl (relaxF lab) st).1 (((outM A' L k (A', ch)).take j).foldl (relaxF lab) st).2 := rj
          generalize ((outM A' L k (A', ch)).take j).foldl (relaxF lab) st = s2 at hd10 hm10 hrj ⊢
          have hF2 := hrj.good.len G.gr
          have hul := G.ul
          have hM2 : s2.2.length ≤ U.length := by
            have := nodup_len (S := U) hrj.nd fun x hx => by
              obtain ⟨v, hv⟩ := Option.isSome_iff_exists.mp (hrj.ms x hx)
              exact G.gr.un x v (hrj.good.snd x v hv)
            rw [keysB, List.length_map] at this
            exact this
          have Wl := Wh.len
          have WAL := Wh.AL
          refine b_set 8 (v_cl Tk' hr (hT.ext e10) (a_d (v_n 4 rfl hv10) (a_d (v_n 5 rfl htv) a_nil)) ⟨A', ch, tk.1, tk.2, rfl, hlt.1, by omega, rfl⟩) fun vt H11 e11 r11 => ?_
          have r11 : TD K H11 vt (chd (thereM (A', ch) tk)) := r11
          refine b_set 9 (v_tup (ds := [SL.nd (lab.1 + stepN tk), SL.nd (lab.2 + 1)]) (a_d (v_addn (v_n 6 rfl (.int _)) (v_ifd (q := tk.2 == 0) (t_eqn (v_ixT (n := 1) (v_n 5 rfl (htv.mono e11.tk)) (v_num (n := 1)) rfl) (v_num (n := 0))) (fun h => (v_num (n := 1)).to ?_) (fun h => (v_num (n := 0)).to ?_))) (a_d (v_addn (v_n 7 rfl (.int _)) (v_num (n := 1))) a_nil)) (by simp [sizeLine_eq])) fun vp H12 e12 r12 => ?_
          · unfold stepN; rw [if_pos (by simpa using h)]
          · unfold stepN; rw [if_neg (by simpa using h)]
          have r12 : TD K H12 vp (tkd (part lab (stepN tk))) := r12
          have e1012 := e11.trans e12
          have hd12 := hd10.ext e1012
          refine b_if (q := betterB s2.1 (thereM (A', ch) tk) (part lab (stepN tk))) ((t_w (w_or (r := match getB s2.1 (thereM (A', ch) tk) with
              | none => false
              | some u => ltL (part lab (stepN tk)) u) (t_notInD hu (v_n 8 rfl (r11.mono e12.tk)) (v_r 1 rfl) hd12) fun hn => w_or1 ?_)).to ?_) (fun hz H13 e13 => ?_) (fun hz H13 e13 => ?_)
          · obtain ⟨u, hgu⟩ := Option.isSome_iff_exists.mp (show (getB s2.1 (thereM (A', ch) tk)).isSome = true by simpa using hn)
            rw [hgu]
            exact t_ltP (Nat.lt_of_le_of_lt (Nat.le_add_right _ 20) hu) (v_n 9 rfl r12) (v_getM hu (v_r 1 rfl) (v_n 8 rfl (r11.mono e12.tk)) hd12 hgu)
          · unfold betterB
            cases getB s2.1 (thereM (A', ch) tk) <;> rfl
          · have hst2 : relaxF lab s2 (thereM (A', ch) tk, stepN tk) = (putB s2.1 (thereM (A', ch) tk) (part lab (stepN tk)), putB s2.2 (thereM (A', ch) tk) ()) := if_pos hz
            rw [hst2]
            have e1013 := e1012.trans e13
            refine b_putM hu (val := tkd) (v := part lab (stepN tk)) (v_n 9 rfl (r12.mono e13.tk)) (v_r 1 rfl) (v_n 8 rfl (r11.mono (e12.trans e13).tk)) (hd10.ext e1013) (by rw [sizeLine_eq]; omega) fun H14 ob e14 hd14 t14 _ => ?_
            have e1014 := e1013.trans e14
            obtain ⟨fd0, hfd⟩ := (hd10.ext e1014).some
            have hm14 : DV P w K moreV (upd H14 d ob) dm s2.2 := (hm10.ext e1014).keep t14 (upd_ne ndm)
            have nbd : pb ≠ d := ne_of (e1014.lst hb10) hfd (by intro z; cases z)
            have nnd : pn ≠ d := ne_of (e1014.lst hn10) hfd (by intro z; cases z)
            have tk14 : Tk H10 (upd H14 d ob) := e1014.tk.trans t14
            have e0_14 : Ext H (upd H14 d ob) := (e10.trans e1014).mut hd0
            refine b_putM hu (val := moreV) (v := ()) (v_bl (b := true)) (v_r 3 rfl) (v_n 8 rfl (r11.mono (((e12.trans e13).trans e14).tk.trans t14))) hm14 (by rw [sizeLine_eq]; omega) fun H15 ob2 e15 hm15 t15 _ => ?_
            have nbm : pb ≠ dm := ne_of (H := H15) (e15.lst (by rw [upd_ne nbd]; exact e1014.lst hb10)) (hm14.ext e15).some.choose_spec (by intro z; cases z)
            have nnm : pn ≠ dm := ne_of (H := H15) (e15.lst (by rw [upd_ne nnd]; exact e1014.lst hn10)) (hm14.ext e15).some.choose_spec (by intro z; cases z)
            have tk15 : Tk H10 (upd H15 dm ob2) := (tk14.trans e15.tk).trans t15
            refine b_nil (b_nil ⟨_, _, _, rfl, (e0_14.trans e15).mut hHm, ?_, hx10.mono tk15, hv10.mono tk15, ?_, hy10.mono tk15, ((hd14.ext e15).keep t15 (upd_ne ndm.symm)), hm15⟩)
            · rw [upd_ne nbm]
              refine e15.lst ?_
              rw [upd_ne nbd]
              exact e1014.lst hb10
            · rw [upd_ne nnm]
              refine e15.lst ?_
              rw [upd_ne nnd]
              exact e1014.lst hn10
          · have hst2 : relaxF lab s2 (thereM (A', ch) tk, stepN tk) = s2 := if_neg (by rw [hz]; simp)
            rw [hst2]
            have e1013 := e1012.trans e13
            exact b_nil (b_nil ⟨_, _, _, rfl, e10.trans e1013, e1013.lst hb10, hx10.mono e1013.tk, hv10.mono e1013.tk, e1013.lst hn10, hy10.mono e1013.tk, hd10.ext e1013, hm10.ext e1013⟩)
        · rintro σ' H10 ⟨o5, o8, o9, rfl, e10, hb10, hx10, hv10, hn10, hy10, hd10, hm10⟩
          have hl : ((takF A' L k ch).map tkd).length = (outM A' L k (A', ch)).length := by
            rw [List.length_map]
            unfold outM
            rw [List.length_map]
          rw [hl, List.take_length] at hd10 hm10
          exact b_nil ⟨_, _, _, _, _, _, rfl, e10, hb10, hx10, hd10, hm10, hri⟩
      · rintro σ' H7 ⟨o4, o5, o6, o7, o8, o9, rfl, e7, hb7, hx7, hd7, hm7, ri⟩
        have hl : (Bl.map chd).length = Bl.length := List.length_map ..
        rw [hl, List.take_length] at hd7 hm7
        refine b_set 2 (v_listM B.list (v_r 3 rfl) hm7) fun v H8 e8 ⟨pb', xs', hv, hb0, hb1, hb2⟩ => b_nil ?_
        subst hv
        refine ⟨n, Nat.lt_succ_self n, _, _, pb', xs', _, _, _, _, _, _, _, rfl, e7.trans e8, hd7.ext e8, hb1, ?_, hnext, (ti.round G.gr).1⟩
        have : (Bl.foldl (hereF (outM A L k)) (F, [])).2.map (fun q => chd q.1) = (keysB (roundF (outM A L k) F Bl).2).map chd := by
          unfold keysB
          rw [List.map_map]
          rfl
        rw [← this]
        exact hb2
    · have hB : Bl = [] := by simpa using hz
      subst hB
      cases hend with
      | succ h => exact absurd rfl h
      | zero =>
      refine b_ret (R := isr (.ref d)) (v_r 1 rfl) fun v H5 e5 rv => ?_
      rw [show v = .ref d from rv]
      exact hq d H5 ((e3.trans e4).trans e5) hd0 (hd3.ext (e4.trans e5))
end
end SL

set_option maxHeartbeats 4000000
/-! data compared; walks: fewest_turns, turn_row, turn_counts -/
namespace SL
open PySem PySem.Spec PyProof.Rows L2 GxR GX StX

mutual
def Dat.dep : Dat → Nat
  | .non => 0
  | .bl _ => 0
  | .int _ => 0
  | .tup ds => Dat.deps ds + 1
def Dat.deps : List Dat → Nat
  | [] => 0
  | d :: ds => max d.dep (Dat.deps ds)
end
mutual
/-- of numbers only -/
def Dat.num : Dat → Bool
  | .non => false
  | .bl _ => false
  | .int _ => true
  | .tup ds => Dat.nums ds
def Dat.nums : List Dat → Bool
  | [] => true
  | d :: ds => d.num && Dat.nums ds
end
mutual
theorem py_can : ∀ d : Dat, d.py.canLay0 = true
  | .non => rfl
  | .bl _ => rfl
  | .int _ => rfl
  | .tup ds => by
    rw [Dat.py, PyData.canLay0]
    exact pys_can ds
theorem pys_can : ∀ ds : List Dat, PyData.canLayAll0 (Dat.pys ds) = true
  | [] => rfl
  | d :: ds => by
    rw [Dat.pys, PyData.canLayAll0, py_can d, pys_can ds]
    rfl
end
mutual
theorem py_dep : ∀ d : Dat, d.py.depth = d.dep
  | .non => rfl
  | .bl _ => rfl
  | .int _ => rfl
  | .tup ds => by
    rw [Dat.py, PyData.depth, Dat.dep, pys_dep ds]
theorem pys_dep : ∀ ds : List Dat, PyData.depthAll (Dat.pys ds) = Dat.deps ds
  | [] => rfl
  | d :: ds => by
    rw [Dat.pys, PyData.depthAll, Dat.deps, py_dep d, pys_dep ds]
end
mutual
theorem eqv_num : ∀ d e : Dat, d.num = true → e.num = true → (PyData.eqv d.py e.py = true ↔ d = e)
  | .int i, .int j, _, _ => by
    rw [Dat.py, Dat.py, PyData.eqv, beq_iff_eq]
    exact ⟨fun h => by rw [h], fun h => by cases h; rfl⟩
  | .int i, .tup es, _, _ => by
    rw [Dat.py, Dat.py, PyData.eqv]
    exact ⟨fun h => (by cases h), fun h => (by cases h)⟩
  | .tup ds, .int j, _, _ => by
    rw [Dat.py, Dat.py, PyData.eqv]
    exact ⟨fun h => (by cases h), fun h => (by cases h)⟩
  | .tup ds, .tup es, hd, he => by
    rw [Dat.py, Dat.py, PyData.eqv, eqvs_num ds es (by rw [Dat.num] at hd; exact hd) (by rw [Dat.num] at he; exact he)]
    exact ⟨fun h => by rw [h], fun h => by cases h; rfl⟩
  | .non, _, h, _ => by cases h
  | .bl _, _, h, _ => by cases h
  | .int _, .non, _, h => by cases h
  | .int _, .bl _, _, h => by cases h
  | .tup _, .non, _, h => by cases h
  | .tup _, .bl _, _, h => by cases h
theorem eqvs_num : ∀ ds es : List Dat, Dat.nums ds = true → Dat.nums es = true → (PyData.eqvAll (Dat.pys ds) (Dat.pys es) = true ↔ ds = es)
  | [], [], _, _ => by
    rw [Dat.pys, PyData.eqvAll]
    exact ⟨fun _ => rfl, fun _ => rfl⟩
  | [], e :: es, _, _ => by
    rw [Dat.pys, Dat.pys, PyData.eqvAll]
    exact ⟨fun h => (by cases h), fun h => (by cases h)⟩
  | d :: ds, [], _, _ => by
    rw [Dat.pys, Dat.pys, PyData.eqvAll]
    exact ⟨fun h => (by cases h), fun h => (by cases h)⟩
  | d :: ds, e :: es, hd, he => by
    rw [Dat.nums, Bool.and_eq_true] at hd he
    rw [Dat.pys, Dat.pys, PyData.eqvAll, Bool.and_eq_true, eqv_num d e hd.1 he.1, eqvs_num ds es hd.2 he.2]
    exact ⟨fun h => by rw [h.1, h.2], fun h => by cases h; exact ⟨rfl, rfl⟩⟩
end
def eqD (d e : Dat) : Bool := PyData.eqv d.py e.py
section
variable {X : Cx} {σ : L2.St} {H : Hp} {a b : Expr} {pos : Pos} {d e : Dat}
theorem shaped_py (h : d.dep ≤ 64) : SeqAt.shaped d.py = true := by
  unfold SeqAt.shaped
  rw [py_can, py_dep, decide_eq_true h]
  rfl
theorem t_eqD (hu : X.A.units + 64 < cLine) (ha : EV X σ H a (isd X d)) (hb : EV X σ H b (isd X e)) (hd : d.dep ≤ 64) (he : e.dep ≤ 64) : ET X σ H (.Compare a [.Eq] [b] pos) (eqD d e) :=
  et_cmp (op_eqD hu) ha hb (fun H0 H1 H2 x y _ _ e2 r1 r2 Q k => ⟨d.py, e.py, TD.dp _ _ (TD.mono r1 e2.tk), TD.dp _ _ r2, shaped_py hd, shaped_py he, k⟩) (nomark _)
theorem v_eqD (hu : X.A.units + 64 < cLine) (ha : EV X σ H a (isd X d)) (hb : EV X σ H b (isd X e)) (hd : d.dep ≤ 64) (he : e.dep ≤ 64) : EV X σ H (.Compare a [.Eq] [b] pos) (isd X (.bl (eqD d e))) :=
  v_cmp (op_eqD hu) ha hb (fun H0 H1 H2 x y _ _ e2 r1 r2 Q k => ⟨d.py, e.py, TD.dp _ _ (TD.mono r1 e2.tk), TD.dp _ _ r2, shaped_py hd, shaped_py he, k⟩) (nomark _)
theorem t_neD (hu : X.A.units + 64 < cLine) (ha : EV X σ H a (isd X d)) (hb : EV X σ H b (isd X e)) (hd : d.dep ≤ 64) (he : e.dep ≤ 64) : ET X σ H (.Compare a [.NotEq] [b] pos) (!eqD d e) :=
  et_cmp (op_neD hu) ha hb (fun H0 H1 H2 x y _ _ e2 r1 r2 Q k => ⟨d.py, e.py, TD.dp _ _ (TD.mono r1 e2.tk), TD.dp _ _ r2, shaped_py hd, shaped_py he, k⟩) (nomark _)
end
theorem deps_nd : ∀ l : List Nat, Dat.deps (l.map nd) = 0
  | [] => rfl
  | n :: l => by
    rw [List.map_cons, Dat.deps, deps_nd l]
    rfl
theorem dep_lnd (l : List Nat) : (lnd l).dep = 1 := by
  unfold lnd
  rw [Dat.dep, deps_nd]
theorem deps_lnd : ∀ l : List (List Nat), Dat.deps (l.map lnd) ≤ 1
  | [] => by simp [Dat.deps]
  | n :: l => by
    rw [List.map_cons, Dat.deps, dep_lnd]
    have := deps_lnd l
    omega
theorem nums_nd : ∀ l : List Nat, Dat.nums (l.map nd) = true
  | [] => rfl
  | n :: l => by
    rw [List.map_cons, Dat.nums, nums_nd l]
    rfl
theorem num_lnd (l : List Nat) : (lnd l).num = true := by
  unfold lnd
  rw [Dat.num, nums_nd]
theorem nums_lnd : ∀ l : List (List Nat), Dat.nums (l.map lnd) = true
  | [] => rfl
  | n :: l => by
    rw [List.map_cons, Dat.nums, num_lnd, nums_lnd l]
    rfl
theorem key_dep (A L k : Nat) (cs : List Nat) : (keyD A L k cs).dep ≤ 64 := by
  unfold keyD
  split
  · have := deps_lnd (ordsF A L cs)
    simp only [Dat.dep, Dat.deps, nd]
    omega
  · simp only [Dat.dep, Dat.deps, dep_lnd, nd]
    omega
theorem key_num (A L k : Nat) (cs : List Nat) : (keyD A L k cs).num = true := by
  unfold keyD
  split
  · simp [Dat.num, Dat.nums, nums_lnd, nd]
  · simp [Dat.num, Dat.nums, num_lnd, nd]
section
variable {X : Cx} {σ : L2.St} {H : Hp} {e : Expr} {pos p : Pos} {j : Nat} {T : List Addr}
theorem v_turns {A L k n : Nat} {cs : List Nat} {U : List Map} {R : List (Map × Lab)} (F : Clb X.prog X.w X.K X.mg X.base 5 "turns_from" (spTurns X.prog X.w X.K T)) (hr : Room j X.A) (hT : Tabs T H) (ha : EV X σ H e (isd X (chd (A, cs)))) (W : Wf A L k cs) (G : GrW A L k (A, cs) U)
    (hn : EndsT (outM A L k) R n [((A, cs), (0, 0))] [(A, cs)]) (hk : 5 ≤ j := by decide) (hg : Gl X "turns_from" := by rfl) (he : starEach [e] X.env = (false, eval e X.env) :: starEach [] X.env := by rfl)
    (hpl : (backTo pos (starEach [] X.env)).any (·.1) = false := by rfl) : EV X σ H (.Call (.Name "turns_from" p) [e] [] pos) (isnd X tkd R) :=
  EV.by (pe_cl F hr (pa_cons pwe pa_nil he) hk hg (by decide) he hpl) fun H1 e1 Q kk => ha H1 e1 _ fun v H2 e2 r => ⟨hT.ext (e1.trans e2), A, L, k, cs, U, v, R, n, rfl, r, W, G, hn, fun d H' e3 hd0 hd => kk _ H' (e2.trans e3) ⟨d, rfl, e2.free hd0, hd⟩⟩
end
section
variable {P : Program} {w : World} {K : PySem.W.Frag} {mg : Str → Option Value} {base : Heap}
def labD1 : Option Lab → Dat
  | none => .non
  | some l => nd l.1
def labD2 : Option Lab → Dat
  | none => .non
  | some l => tkd l
def fewS (g : Option Lab → Dat) (as : List AD) (r : AD) : Prop := ∃ (A L k n : Nat) (cs cs2 : List Nat) (U : List Map) (R : List (Map × Lab)), as = [.d (chd (A, cs)), .d (chd (A, cs2))] ∧ Wf A L k cs ∧ Wf A L k cs2 ∧ GrW A L k (A, cs) U ∧ EndsT (outM A L k) R n [((A, cs), (0, 0))] [(A, cs)] ∧
  eqD (keyD A L k cs) (keyD A L k cs2) = (getB R (A, cs2)).isSome ∧ r = .d (g (getB R (A, cs2)))
theorem ok_fewest_turns {f : Addr} {fd : FuncData} {T : List Addr} (F : Fun K "fewest_turns" "fewest_turns" t_fewest_turns f fd) (Tf : Clb P w K mg base 5 "turns_from" (spTurns P w K T)) (Nt : Clb P w K mg base 7 "need_two" (spR K T twoS)) (Ko : Clb P w K mg base 6 "key_of" (spR K T keyS)) : Ok0 P w K mg base 8 f fd p_fewest_turns T (fewS labD1) := by
  refine okR F sc_fewest_turns (fun as r h => ?_) (fun cdv Ar outer s H vs Q E as r hcd hr hT ha hs hq => ?_)
  · obtain ⟨A, L, k, n, cs, cs2, U, R, rfl, _⟩ := h
    rfl
  · obtain ⟨A, L, k, n, cs, cs2, U, R, rfl, W, W2, G, hn, hk, rfl⟩ := hs
    have nd := sc_fewest_turns.nd
    have hu : (Ar.deeper (envOfC "fewest_turns" (defScope t_fewest_turns) s.heap.objs.size f cdv)).units + 64 < cLine := by have := hr.un; omega
    obtain ⟨a, b, rfl, a1, a2⟩ := arsd2 ha
    refine b_expr (v_cl Nt hr hT (a_d (v_n 0 rfl a1) (a_d (v_n 1 rfl a2) a_nil)) ⟨A, L, k, cs, cs2, rfl, W, W2, rfl⟩) fun v H1 e1 r1 => ?_
    have m1 := a1.mono e1.tk
    have m2 := a2.mono e1.tk
    have hT1 := hT.ext e1
    refine b_retd (v_ifd (q := eqD (keyD A L k cs) (keyD A L k cs2)) (t_eqD hu (v_cl Ko hr hT1 (a_d (v_n 0 rfl m1) a_nil) ⟨A, L, k, cs, rfl, W, rfl⟩) (v_cl Ko hr hT1 (a_d (v_n 1 rfl m2) a_nil) ⟨A, L, k, cs2, rfl, W2, rfl⟩) (key_dep A L k cs) (key_dep A L k cs2)) (fun hz => ?_) (fun hz => ?_)) fun v H' e r => hq v H' (e1.trans e) r
    · rw [hk] at hz
      obtain ⟨l, hl⟩ := Option.isSome_iff_exists.mp hz
      rw [hl]
      exact v_ixT (ds := [SL.nd l.1, SL.nd l.2]) (n := 0) (v_getNM (val := tkd) (v := l) (Nat.lt_of_le_of_lt (Nat.add_le_add_left (by decide : 20 ≤ 64) _) hu) (v_turns Tf hr hT1 (v_n 0 rfl m1) W G hn) (v_n 1 rfl m2) hl) (v_num (n := 0)) rfl
    · rw [hk] at hz
      rw [show getB R (A, cs2) = none by simpa using hz]
      exact v_non
theorem ok_turn_row {f : Addr} {fd : FuncData} {T : List Addr} (F : Fun K "turn_row" "turn_row" t_turn_row f fd) (Tf : Clb P w K mg base 5 "turns_from" (spTurns P w K T)) (Nt : Clb P w K mg base 7 "need_two" (spR K T twoS)) (Ko : Clb P w K mg base 6 "key_of" (spR K T keyS)) : Ok0 P w K mg base 8 f fd p_turn_row T (fewS labD2) := by
  refine okR F sc_turn_row (fun as r h => ?_) (fun cdv Ar outer s H vs Q E as r hcd hr hT ha hs hq => ?_)
  · obtain ⟨A, L, k, n, cs, cs2, U, R, rfl, _⟩ := h
    rfl
  · obtain ⟨A, L, k, n, cs, cs2, U, R, rfl, W, W2, G, hn, hk, rfl⟩ := hs
    have nd := sc_turn_row.nd
    have hu : (Ar.deeper (envOfC "turn_row" (defScope t_turn_row) s.heap.objs.size f cdv)).units + 64 < cLine := by have := hr.un; omega
    obtain ⟨a, b, rfl, a1, a2⟩ := arsd2 ha
    refine b_expr (v_cl Nt hr hT (a_d (v_n 0 rfl a1) (a_d (v_n 1 rfl a2) a_nil)) ⟨A, L, k, cs, cs2, rfl, W, W2, rfl⟩) fun v H1 e1 r1 => ?_
    have m1 := a1.mono e1.tk
    have m2 := a2.mono e1.tk
    have hT1 := hT.ext e1
    refine b_retd (v_ifd (q := eqD (keyD A L k cs) (keyD A L k cs2)) (t_eqD hu (v_cl Ko hr hT1 (a_d (v_n 0 rfl m1) a_nil) ⟨A, L, k, cs, rfl, W, rfl⟩) (v_cl Ko hr hT1 (a_d (v_n 1 rfl m2) a_nil) ⟨A, L, k, cs2, rfl, W2, rfl⟩) (key_dep A L k cs) (key_dep A L k cs2)) (fun hz => ?_) (fun hz => ?_)) fun v H' e r => hq v H' (e1.trans e) r
    · rw [hk] at hz
      obtain ⟨l, hl⟩ := Option.isSome_iff_exists.mp hz
      rw [hl]
      exact v_getNM (val := tkd) (v := l) (Nat.lt_of_le_of_lt (Nat.add_le_add_left (by decide : 20 ≤ 64) _) hu) (v_turns Tf hr hT1 (v_n 0 rfl m1) W G hn) (v_n 1 rfl m2) hl
    · rw [hk] at hz
      rw [show getB R (A, cs2) = none by simpa using hz]
      exact v_non
end
/-! counts -/
def cntF (l : List Nat) : List Nat := (List.range (maxl l + 1)).map fun i => l.count i
section
variable {X : Cx} {σ : L2.St} {H : Hp} {a b : Expr} {pos p1 p2 p3 : Pos} {x : Str}
theorem count_int (l : List Nat) (i : Nat) : (l.map fun n : Nat => (n : Int)).count (i : Int) = l.count i := by
  induction l with
  | nil => rfl
  | cons n l ih =>
    rw [List.map_cons, List.count_cons, List.count_cons, ih]
    congr 1
    by_cases h : n = i
    · simp [h]
    · have : ¬ ((n : Int) = (i : Int)) := fun z => h (Int.ofNat.inj z)
      simp [h, this]
theorem v_count {l : List Nat} {i : Nat} (ha : EV X σ H a (isl X (l.map nd))) (hb : EV X σ H b (isd X (nd i)))
    (hbase : attributeBase a "count" X.env (eval a X.env) = eval a X.env := by rfl)
    (hfew : ((backTo p3 (starEach (b :: []) X.env)).all (fun x => !x.1) && (backToKw p3 (keywordEach [] X.env)).all (fun x => x.1.isSome)
      && decide ((b :: []).length + ([] : List Keyword).length + (if ([] : List Keyword).isEmpty then 0 else 1) < 30)) = true := by rfl)
    (hline : (p2.endLine == p3.line) = true := by rfl) (hs : starEach (b :: []) X.env = (false, eval b X.env) :: starEach [] X.env := by rfl) (hplain : (backTo p3 (starEach [] X.env)).any (·.1) = false := by rfl) :
    EV X σ H (.Call (.Attribute a "count" p2) [b] [] p3) (isd X (nd (l.count i))) :=
  EV.by (pe_bm PySem.F.plainAttrs_list PySem.F.slot_list_count PySem.F.type_list_count mt_lcount pwe (pa_cons pwe pa_nil hs) hbase hfew hline hs hplain) fun H1 e1 Q k =>
    ha H1 e1 _ fun v H2 e2 ⟨q, xs, ev, hq, hd⟩ => ⟨by rw [ev]; exact .inl ⟨rfl, _, hq⟩, hb H2 (e1.trans e2) _ fun u H3 e3 r3 => ⟨q, l.map fun n : Nat => (n : Int), i, ev, by rw [int_inv r3], by
      have := e3.sql hq
      rw [tds_int_inv hd] at this
      rw [List.map_map]
      exact this, by
      rw [count_int]
      exact k _ H3 (e2.trans e3) (.int _)⟩⟩
end
section
variable {P : Program} {w : World} {K : PySem.W.Frag} {mg : Str → Option Value} {base : Heap}
def trnF (R : List (Map × Lab)) : List Nat := R.map fun q => q.2.1
def labAt (R : List (Map × Lab)) (i : Nat) : Lab := ((R[i]?).map fun q => q.2).getD (0, 0)
theorem lab_at {R : List (Map × Lab)} {i : Nat} {q : Map × Lab} (h : R[i]? = some q) : labAt R i = q.2 := by
  unfold labAt
  rw [h]
  rfl
theorem trn_at (R : List (Map × Lab)) : (List.range R.length).map (fun i => nd (labAt R i).1) = (trnF R).map nd := by
  apply List.ext_getElem
  · simp [trnF]
  · intro i h1 h2
    have hi : i < R.length := by simpa using h1
    rw [List.getElem_map, List.getElem_range, List.getElem_map, lab_at (List.getElem?_eq_getElem hi)]
    simp [trnF]
def cntS (as : List AD) (r : AD) : Prop := ∃ (A L k n : Nat) (cs : List Nat) (U : List Map) (R : List (Map × Lab)), as = [.d (chd (A, cs))] ∧ Wf A L k cs ∧ GrW A L k (A, cs) U ∧ EndsT (outM A L k) R n [((A, cs), (0, 0))] [(A, cs)] ∧ R ≠ [] ∧ R.length < 16777216 ∧ maxl (trnF R) + 1 ≤ 16777216 ∧ r = .d (lnd (cntF (trnF R)))
theorem y_valsM {X : Cx} {σ : L2.St} {H : Hp} {e : Expr} {R : List (Map × Lab)} (he : EV X σ H e (isnd X tkd R)) : ∀ H1, Ext H H1 → ∀ Q : It → Hp → Prop, (∀ J H2, Ext H1 H2 → Ylds J H2 R.length (fun i v H4 => TD X.K H4 v (.tup [nd (labAt R i).1, nd (labAt R i).2])) → Q J H2) → iValsM X.prog X.w X.K (WE X e) σ H1 Q := fun H1 e1 Q k =>
  he H1 e1 _ fun v H2 e2 ⟨d, ev, hd0, kvs, hd, hp⟩ => ⟨d, kvs, ev, hd, fun ob hob t => by
    have hl : kvs.length = R.length := Paired.length hp
    refine k _ _ (e2.mut hd0) fun H3 e3 => ⟨fun i hi => ⟨⟨e3.1 _ _ upd_same (by obtain ⟨o, u, rfl⟩ := hob; intro ps z; cases z), by rw [hl]; exact hi⟩, fun v H4 hy => ?_⟩, e3.1 _ _ upd_same (by obtain ⟨o, u, rfl⟩ := hob; intro ps z; cases z), by rw [hl]; exact Nat.le_refl _⟩
    obtain ⟨rfl, m, hm⟩ := hy
    refine ⟨Ext.refl _, ?_⟩
    have hget : ∀ {kvs : List (Map × V)} {R : List (Map × Lab)} {i : Nat} {p : Map × V}, Paired (fun (p : Map × V) (q : Map × Lab) => p.1 = q.1 ∧ TD X.K H2 p.2 (tkd q.2)) kvs R → kvs[i]? = some p → TD X.K H2 p.2 (tkd (labAt R i)) := by
      intro kvs R i p r
      induction r generalizing i with
      | nil => intro h; simp at h
      | @cons a b as bs h t ih =>
        intro hh
        cases i with
        | zero =>
          have e : a = p := by simpa using hh
          subst e
          exact h.2
        | succ i => exact ih (i := i) (by simpa using hh)
    exact (TD.mono (hget hp hm) (t.trans e3.tk))⟩
theorem ok_turn_counts {f : Addr} {fd : FuncData} {T : List Addr} (F : Fun K "turn_counts" "turn_counts" t_turn_counts f fd) (B : Bt mg) (Tf : Clb P w K mg base 5 "turns_from" (spTurns P w K T)) (Nm : Clb P w K mg base 6 "need_map" (spR K T nonS)) : Ok0 P w K mg base 7 f fd p_turn_counts T cntS := by
  refine okR F sc_turn_counts (fun as r h => ?_) (fun cdv Ar outer s H vs Q E as r hcd hr hT ha hs hq => ?_)
  · obtain ⟨A, L, k, n, cs, U, R, rfl, _⟩ := h
    rfl
  · obtain ⟨A, L, k, n, cs, U, R, rfl, W, G, hn, hne, hRl, hmx, rfl⟩ := hs
    have nd := sc_turn_counts.nd
    obtain ⟨a, rfl, a1⟩ := arsd1 ha
    refine b_expr (v_cl Nm hr hT (a_d (v_n 0 rfl a1) a_nil) ⟨A, L, k, cs, rfl, W, rfl⟩) fun v H1 e1 r1 => ?_
    refine b_set 1 (v_lcP 2 3 (m := R.length) (q := fun _ => true) (gd := fun i => SL.nd (labAt R i).1) (pi_valuesM pwe) (y_valsM (v_turns Tf hr (hT.ext e1) (v_n 0 rfl (a1.mono e1.tk)) W G hn)) (by rw [sizeLine_eq]; omega) fun i u v H' hi t1 t2 e' s' H0 C cl fp => ?_) fun v H2 e2 ⟨q, xs, hv, hq0, hq1, hq2⟩ => ?_
    · cases t1
      exact ⟨c_nil, fun _ => v_n 2 rfl (.int _)⟩
    subst hv
    rw [filter_all, trn_at] at hq2
    have hq2' := tds_int_inv hq2
    have hne2 : trnF R ≠ [] := fun z => hne (List.map_eq_nil_iff.mp z)
    refine b_retd ((v_toTup B.tuple (EV.rd (v_lcR 4 (m := maxl (trnF R) + 1) (q := fun _ => true) (gd := fun i => SL.nd ((trnF R).count i)) (v_addn (v_maxL rfl B.max (v_l 1 rfl (SqL.of hq1) hq2) hne2) (v_num (n := 1))) hmx B.range (fun i H' hi e' s' H0 C cl fp => ⟨c_nil, fun _ => v_count (v_l 1 rfl (SqL.of (e'.lst hq1)) (hq2.mono e'.tk)) (v_n 4 rfl (.int _))⟩)))).to ?_) fun v H' e r => hq v H' ((e1.trans e2).trans e) r
    rw [filter_all]
    show Dat.tup _ = Dat.tup ((cntF (trnF R)).map SL.nd)
    unfold cntF
    rw [List.map_map]
    rfl
end
end SL

set_option maxHeartbeats 4000000
/-! the law's own defs: near, hangs -/
namespace SL
open PySem PySem.Spec PyProof.Rows L2 GxR GX StX

/-! ### plain -/
/-- the law's walk over all pairs -/
def lnr (L c : Nat) : Nat → List Nat
  | 0 => []
  | t + 1 => (lnr L c t ++ (if c = innF L (t + 1) then [t + 1] else [])) ++ (if c = t + 1 then [innF L (t + 1)] else [])
theorem lnr_mem (L c : Nat) : ∀ t y, y ∈ lnr L c t ↔ (1 ≤ y ∧ y ≤ t ∧ c = innF L y) ∨ (1 ≤ c ∧ c ≤ t ∧ y = innF L c)
  | 0, y => by
    simp only [lnr, List.not_mem_nil, false_iff]
    omega
  | t + 1, y => by
    rw [lnr, List.mem_append, List.mem_append, lnr_mem L c t y]
    constructor
    · rintro ((h | h) | h)
      · rcases h with h | h
        · exact .inl ⟨h.1, by omega, h.2.2⟩
        · exact .inr ⟨h.1, by omega, h.2.2⟩
      · split at h
        · rename_i e
          have : y = t + 1 := by simpa using h
          subst this
          exact .inl ⟨by omega, Nat.le_refl _, e⟩
        · cases h
      · split at h
        · rename_i e
          have : y = innF L (t + 1) := by simpa using h
          exact .inr ⟨by omega, by omega, by rw [this, e]⟩
        · cases h
    · rintro (⟨h1, h2, h3⟩ | ⟨h1, h2, h3⟩)
      · by_cases e : y = t + 1
        · subst e
          left; right
          rw [if_pos h3]
          simp
        · exact .inl (.inl (.inl ⟨h1, by omega, h3⟩))
      · by_cases e : c = t + 1
        · right
          rw [if_pos e, h3, e]
          simp
        · exact .inl (.inl (.inr ⟨h1, by omega, h3⟩))
theorem lnr_nodup (L c : Nat) : ∀ t, (lnr L c t).Nodup
  | 0 => by simp [lnr]
  | t + 1 => by
    have hlt : ∀ x, x ≠ 0 → innF L x < x := fun x h => inn_lt h
    have h1 : (lnr L c t ++ (if c = innF L (t + 1) then [t + 1] else [])).Nodup := by
      rw [List.nodup_append]
      refine ⟨lnr_nodup L c t, by split <;> simp, fun a ha b hb e => ?_⟩
      split at hb
      · have hb : b = t + 1 := by simpa using hb
        rw [e, hb, lnr_mem] at ha
        rcases ha with ha | ha
        · omega
        · have := hlt c (by omega)
          omega
      · cases hb
    rw [lnr, List.nodup_append]
    refine ⟨h1, by split <;> simp, fun a ha b hb e => ?_⟩
    split at hb
    · rename_i ec
      have hb : b = innF L (t + 1) := by simpa using hb
      rcases List.mem_append.mp ha with ha | ha
      · rw [lnr_mem] at ha
        rcases ha with ha | ha
        · have := hlt a (by omega)
          omega
        · omega
      · split at ha
        · rename_i e2
          have := hlt (t + 1) (by omega)
          omega
        · cases ha
    · cases hb
theorem lnr_len (L c : Nat) : ∀ t, (lnr L c t).length ≤ 2 * t
  | 0 => by simp [lnr]
  | t + 1 => by
    have := lnr_len L c t
    rw [lnr, List.length_append, List.length_append]
    have h1 : (if c = innF L (t + 1) then [t + 1] else []).length ≤ 1 := by split <;> simp
    have h2 : (if c = t + 1 then [innF L (t + 1)] else []).length ≤ 1 := by split <;> simp
    omega
theorem lnr_near {A L c : Nat} (hL : 0 < L) (hc : c < 1 + A * L) (y : Nat) : y ∈ lnr L c (A * L) ↔ y ∈ nearF A L c := by
  rw [lnr_mem]
  constructor
  · rintro (⟨h1, h2, h3⟩ | ⟨h1, h2, h3⟩)
    · exact (mem_near hL hc (by omega)).mpr (.inr ⟨by omega, h3⟩)
    · have := inn_lt (L := L) (c := c) (by omega)
      exact (mem_near hL hc (by omega)).mpr (.inl ⟨by omega, h3⟩)
  · intro h
    have hy := near_lt hL hc h
    rcases (mem_near hL hc hy).mp h with ⟨h1, h2⟩ | ⟨h1, h2⟩
    · exact .inr ⟨by omega, by omega, h2⟩
    · exact .inl ⟨by omega, by omega, h2⟩
theorem inn_at {L a s : Nat} (hs : s < L) : innF L (1 + a * L + s) = if s = 0 then 0 else 1 + a * L + s - 1 := by
  unfold innF
  have : (1 + a * L + s - 1) % L = s := by
    rw [show 1 + a * L + s - 1 = s + a * L by omega, Nat.add_mul_mod_self_right]
    exact Nat.mod_eq_of_lt hs
  rw [this]

theorem perm_sorted : ∀ {l1 l2 : List Nat}, l1.Perm l2 → l1.Pairwise (· ≤ ·) → l2.Pairwise (· ≤ ·) → l1 = l2
  | [], l2, h, _, _ => (List.nil_perm.mp h).symm
  | a :: l1, [], h, _, _ => by
    have := h.length_eq
    simp at this
  | a :: l1, b :: l2, h, h1, h2 => by
    rw [List.pairwise_cons] at h1 h2
    have hb : b ∈ a :: l1 := h.mem_iff.mpr List.mem_cons_self
    have ha : a ∈ b :: l2 := h.mem_iff.mp List.mem_cons_self
    have e : a = b := by
      rcases List.mem_cons.mp hb with e | hb
      · exact e.symm
      · rcases List.mem_cons.mp ha with e | ha
        · exact e
        · exact Nat.le_antisymm (h1.1 b hb) (h2.1 a ha)
    subst e
    rw [perm_sorted ((List.perm_cons a).mp h) h1.2 h2.2]
/-- the law's list of what is next -/
def nearL (A L c : Nat) : List Nat := (lnr L c (A * L)).mergeSort (fun a b => decide (a ≤ b))
theorem sort_pw (l : List Nat) : (l.mergeSort (fun a b => decide (a ≤ b))).Pairwise (· ≤ ·) := by
  have := List.pairwise_mergeSort (le := fun a b : Nat => decide (a ≤ b)) (fun a b c h1 h2 => by simp only [decide_eq_true_eq] at h1 h2 ⊢; omega) (fun a b => by simp only [Bool.or_eq_true, decide_eq_true_eq]; omega) l
  exact this.imp fun h => by simpa using h
theorem nearL_perm (A L c : Nat) : (nearL A L c).Perm (lnr L c (A * L)) := List.mergeSort_perm ..
theorem nearL_nodup (A L c : Nat) : (nearL A L c).Nodup := (nearL_perm A L c).nodup_iff.mpr (lnr_nodup _ _ _)
theorem nearL_mem {A L c : Nat} (hL : 0 < L) (hc : c < 1 + A * L) (y : Nat) : y ∈ nearL A L c ↔ y ∈ nearF A L c := by
  rw [(nearL_perm A L c).mem_iff, lnr_near hL hc]
theorem nearL_len (A L c : Nat) : (nearL A L c).length ≤ 2 * (A * L) := by
  rw [(nearL_perm A L c).length_eq]
  exact lnr_len _ _ _

/-! ### rules -/
section
variable {X : Cx} {σ : L2.St} {H : Hp} {a b : Expr} {pos p : Pos} {ds : List Dat}
theorem eqvs_nil (ds : List Dat) : PyData.eqvAll (Dat.pys ds) [] = ds.isEmpty := by
  cases ds with
  | nil => rw [Dat.pys, PyData.eqvAll]; rfl
  | cons d ds => rw [Dat.pys, PyData.eqvAll]; rfl
theorem shaped_lst (h : Dat.deps ds ≤ 63) : SeqAt.shaped (.list (Dat.pys ds)) = true := by
  unfold SeqAt.shaped
  rw [PyData.canLay0, pys_can, PyData.depth, pys_dep, decide_eq_true (by omega)]
  rfl
theorem WB.nxt {D : Ends} {sts : List Stmt} {M : L2.St → Hp → Prop} (h : WB X sts { D with nx := M } σ H) (k : ∀ σ' H', M σ' H' → D.nx σ' H') : WB X sts D σ H := fun pins s I => thn (h pins s I) fun f s1 q => by
  cases f with
  | next =>
    obtain ⟨σ', H', I', q⟩ := q
    exact ⟨σ', H', I', k σ' H' q⟩
  | ret v => exact q
  | brk => exact q
  | cont => exact q
/-- both ways meet -/
theorem b_ifj {D : Ends} {body body2 rest : List Stmt} {c : Expr} {q : Bool} (M : L2.St → Hp → Prop) (hc : ET X σ H c q) (h1 : q = true → ∀ H', Ext H H' → WB X body { D with nx := M } σ H') (h2 : q = false → ∀ H', Ext H H' → WB X body2 { D with nx := M } σ H') (k : ∀ σ' H', M σ' H' → WB X rest D σ' H') : WB X (.If c body body2 pos :: rest) D σ H :=
  b_if hc (fun z H' e => WB.nxt (D := Ends.go D X rest) (h1 z H' e) k) (fun z H' e => WB.nxt (D := Ends.go D X rest) (h2 z H' e) k)
/-- xs != [] -/
theorem t_neL (hu : X.A.units + 64 < cLine) (ha : EV X σ H a (isl X ds)) (hd : Dat.deps ds ≤ 63) : ET X σ H (.Compare a [.NotEq] [.List [] p] pos) (!ds.isEmpty) :=
  et_cmp (op_neD hu) ha (EV.rd (v_lst (ds := []) a_nil (Nat.zero_le _))) (fun H0 H1 H2 x y _ _ e2 ⟨q, xs, ex, hq, hx⟩ ⟨r, ys, ey, hr, hy⟩ Q k => by
    have hy := hy.nil_
    subst hy
    rw [ex, ey]
    refine ⟨.list (Dat.pys ds), .list [], .lst (e2.sql hq) (TDs.dp _ _ (hx.mono e2.tk)), .lst hr .nil, shaped_lst hd, by rfl, ?_⟩
    rw [PyData.eqv, eqvs_nil]
    exact k) (nomark _)
theorem v_neL (hu : X.A.units + 64 < cLine) (ha : EV X σ H a (isl X ds)) (hd : Dat.deps ds ≤ 63) : EV X σ H (.Compare a [.NotEq] [.List [] p] pos) (isd X (.bl (!ds.isEmpty))) :=
  v_cmp (op_neD hu) ha (EV.rd (v_lst (ds := []) a_nil (Nat.zero_le _))) (fun H0 H1 H2 x y _ _ e2 ⟨q, xs, ex, hq, hx⟩ ⟨r, ys, ey, hr, hy⟩ Q k => by
    have hy := hy.nil_
    subst hy
    rw [ex, ey]
    refine ⟨.list (Dat.pys ds), .list [], .lst (e2.sql hq) (TDs.dp _ _ (hx.mono e2.tk)), .lst hr .nil, shaped_lst hd, by rfl, ?_⟩
    rw [PyData.eqv, eqvs_nil]
    exact k) (nomark _)
theorem v_eqL (hu : X.A.units + 64 < cLine) (ha : EV X σ H a (isl X ds)) (hd : Dat.deps ds ≤ 63) : EV X σ H (.Compare a [.Eq] [.List [] p] pos) (isd X (.bl ds.isEmpty)) :=
  v_cmp (op_eqD hu) ha (EV.rd (v_lst (ds := []) a_nil (Nat.zero_le _))) (fun H0 H1 H2 x y _ _ e2 ⟨q, xs, ex, hq, hx⟩ ⟨r, ys, ey, hr, hy⟩ Q k => by
    have hy := hy.nil_
    subst hy
    rw [ex, ey]
    refine ⟨.list (Dat.pys ds), .list [], .lst (e2.sql hq) (TDs.dp _ _ (hx.mono e2.tk)), .lst hr .nil, shaped_lst hd, by rfl, ?_⟩
    rw [PyData.eqv, eqvs_nil]
    exact k) (nomark _)
/-- sorted(xs), xs numbers -/
def sortN (l : List Nat) : List Nat := l.mergeSort (fun a b => decide (a ≤ b))
theorem v_sorted {l : List Nat} (hm : X.mg "sorted" = none) (ha : EV X σ H a (isl X (l.map nd))) (hl : l.length < 64) (hg : Gl X "sorted" := by rfl) (he : starEach [a] X.env = (false, eval a X.env) :: starEach [] X.env := by rfl) (hpl : (backTo pos (starEach [] X.env)).any (·.1) = false := by rfl) :
    EV X σ H (.Call (.Name "sorted" p) [a] [] pos) (isn X ((sortN l).map nd)) :=
  v_B cr_sorted hm boot_sorted (a_l ha a_nil he) (fun H0 H1 vs e0 e1 rs Q k => by
    obtain ⟨v, rfl, q, xs, rfl, h1, h2⟩ := ars_one rs
    rw [tds_int_inv h2] at h1
    have e : l.map nv = (l.map fun n : Nat => (n : Int)).map V.int := by rw [List.map_map]; rfl
    rw [e] at h1
    refine ⟨q, _, rfl, h1, by rw [List.length_map]; exact hl, fun ns' p hp hs hn => ?_⟩
    have hp2 := hp.map Int.toNat
    rw [List.map_map] at hp2
    rw [show (Int.toNat ∘ fun n : Nat => (n : Int)) = id from funext fun n => rfl, List.map_id] at hp2
    have hpos : ∀ i, i ∈ ns' → ((i.toNat : Nat) : Int) = i := fun i hi => by
      obtain ⟨n, _, rfl⟩ := List.mem_map.mp (hp.mem_iff.mp hi)
      rfl
    have hso : (ns'.map Int.toNat) = sortN l := perm_sorted (hp2.trans (List.mergeSort_perm ..).symm) (by
      rw [List.pairwise_map]
      refine hs.imp_of_mem fun {x y} hx hy hxy => ?_
      have h1 := hpos x hx
      have h2 := hpos y hy
      omega) (sort_pw l)
    refine k _ _ (Ext.new hn) ⟨p, _, rfl, e1.free hn, upd_same, ?_⟩
    rw [← hso, show ns'.map V.int = (ns'.map Int.toNat).map nv by
      rw [List.map_map]
      refine List.map_congr_left fun i hi => ?_
      show V.int i = V.int ((i.toNat : Nat) : Int)
      rw [hpos i hi]]
    exact tds_ints _) hg (by decide) (by decide) he hpl
end

section
variable {P : Program} {w : World} {K : PySem.W.Frag} {mg : Str → Option Value} {base : Heap}
def lnearS (as : List AD) (r : AD) : Prop := ∃ A L c : Nat, as = [.d (nd A), .d (nd L), .d (nd c)] ∧ A ≤ 4 ∧ 0 < L ∧ L ≤ 4 ∧ c < 1 + A * L ∧ r = .l ((nearL A L c).map nd)
theorem ok_law_near {f : Addr} {fd : FuncData} {T : List Addr} (F : Fun K "_law_near" "_law_near" t_law_near f fd) (B : Bt mg) : Ok0 P w K mg base 1 f fd p_law_near T lnearS := by
  refine okR F sc_law_near (fun as r h => ?_) (fun cdv Ar outer s H vs Q E as r hcd hr hT ha hs hq => ?_)
  · obtain ⟨A, L, c, rfl, _⟩ := h
    rfl
  · obtain ⟨A, L, c, rfl, hA, hL, hL4, hc, rfl⟩ := hs
    obtain ⟨a1, a2, a3, rfl, b1, b2, b3⟩ := ars3 ha
    cases b1
    cases b2
    cases b3
    have nd := sc_law_near.nd
    have hAL : A * L ≤ 16 := Nat.mul_le_mul hA hL4
    refine b_set 3 (v_lst (ds := []) a_nil (Nat.zero_le _)) fun v H1 e1 ⟨pf, xs, hv, hf0, hf1, hf2⟩ => ?_
    subst hv
    have hf2 := hf2.nil_
    subst hf2
    refine b_forR 4 (m := A) (v_n 0 rfl (.int _)) (by omega) (fun i σ' H' => ∃ o4 o5 o6 o7, σ' = [some (nv A), some (nv L), some (nv c), some (.ref pf), o4, o5, o6, o7] ∧ Ext H H' ∧ H' pf = some (.lst ((lnr L c (i * L)).map nv))) (fun H2 e2 => ⟨_, _, _, _, rfl, e1.trans e2, by rw [Nat.zero_mul]; exact e2.lst hf1⟩) ?_ ?_ B.range
    · rintro i σ' H2 hi ⟨o4, o5, o6, o7, rfl, e2, hf2⟩
      have hiL : (i + 1) * L ≤ A * L := Nat.mul_le_mul_right L hi
      have hiL2 : (i + 1) * L = i * L + L := by rw [Nat.add_mul, Nat.one_mul]
      refine b_forR 5 (m := L) (v_n 1 rfl (.int _)) (by omega) (fun j σ' H' => ∃ o5 o6 o7, σ' = [some (nv A), some (nv L), some (nv c), some (.ref pf), some (nv i), o5, o6, o7] ∧ Ext H H' ∧ H' pf = some (.lst ((lnr L c (i * L + j)).map nv))) (fun H3 e3 => ⟨_, _, _, rfl, e2.trans e3, e3.lst hf2⟩) ?_ ?_ B.range
      · rintro j σ' H3 hj ⟨o5, o6, o7, rfl, e3, hf3⟩
        refine b_set 6 (v_addn (v_addn (v_num (n := 1)) (v_muln (v_n 4 rfl (.int _)) (v_n 1 rfl (.int _)) (by omega))) (v_n 5 rfl (.int _))) fun v H4 e4 r4 => ?_
        have r4 := int_inv r4
        subst r4
        refine b_set 7 (v_ifd (d := SL.nd (innF L (1 + i * L + j))) (q := j == 0) (t_eqn (v_n 5 rfl (.int _)) (v_num (n := 0))) (fun h => (v_num (n := 0)).to ?_) (fun h => (v_subn (v_n 6 rfl (.int _)) (v_num (n := 1)) (by omega)).to ?_)) fun v H5 e5 r5 => ?_
        · rw [inn_at hj, if_pos (by simpa using h)]
        · rw [inn_at hj, if_neg (by simpa using h)]
        have r5 := int_inv r5
        subst r5
        have hlen := lnr_len L c (i * L + j)
        have hstep : lnr L c (i * L + (j + 1)) = (lnr L c (i * L + j) ++ (if c = innF L (1 + i * L + j) then [1 + i * L + j] else [])) ++ (if c = 1 + i * L + j then [innF L (1 + i * L + j)] else []) := by
          rw [show i * L + (j + 1) = (i * L + j) + 1 by omega, lnr, show i * L + j + 1 = 1 + i * L + j by omega]
        have e35 := e4.trans e5
        refine b_ifj (fun σ' H' => σ' = [some (nv A), some (nv L), some (nv c), some (.ref pf), some (nv i), some (nv j), some (nv (1 + i * L + j)), some (nv (innF L (1 + i * L + j)))] ∧ Ext H H' ∧ H' pf = some (.lst ((lnr L c (i * L + j) ++ (if c = innF L (1 + i * L + j) then [1 + i * L + j] else [])).map nv)))
          (t_eqn (v_n 2 rfl (.int _)) (v_n 7 rfl (.int _))) (fun hz H6 e6 => ?_) (fun hz H6 e6 => b_nil ⟨rfl, e3.trans (e35.trans e6), ?_⟩) ?_
        · refine b_app 3 rfl ((e35.trans e6).lst hf3) (v_n 6 rfl (.int _)) (by rw [List.length_map, sizeLine_eq]; omega) fun v H7 e7 rv => b_nil ⟨rfl, ((e3.trans (e35.trans e6)).trans e7).mut hf0, ?_⟩
          rw [int_inv rv, upd_same, if_pos (show c = innF L (1 + i * L + j) by simpa using hz), List.map_append]
          rfl
        · rw [if_neg (show ¬ c = innF L (1 + i * L + j) by simpa using hz), List.append_nil]
          exact (e35.trans e6).lst hf3
        · rintro σ' H6 ⟨rfl, e6, h6⟩
          have hl6 : (lnr L c (i * L + j) ++ (if c = innF L (1 + i * L + j) then [1 + i * L + j] else [])).length < 100 := by
            rw [List.length_append]
            have : (if c = innF L (1 + i * L + j) then [1 + i * L + j] else []).length ≤ 1 := by split <;> simp
            omega
          generalize lnr L c (i * L + j) ++ (if c = innF L (1 + i * L + j) then [1 + i * L + j] else []) = G at h6 hl6 hstep
          refine b_if (t_eqn (v_n 2 rfl (.int _)) (v_n 6 rfl (.int _))) (fun hz H7 e7 => ?_) (fun hz H7 e7 => ?_)
          · refine b_app 3 rfl (e7.lst h6) (v_n 7 rfl (.int _)) (by rw [List.length_map, sizeLine_eq]; omega) fun v H8 e8 rv => b_nil (b_nil ⟨_, _, _, rfl, ((e6.trans e7).trans e8).mut hf0, ?_⟩)
            rw [int_inv rv, upd_same, hstep, if_pos (show c = 1 + i * L + j by simpa using hz), List.map_append]
            rfl
          · refine b_nil (b_nil ⟨_, _, _, rfl, e6.trans e7, ?_⟩)
            rw [e7.lst h6, hstep, if_neg (show ¬ c = 1 + i * L + j by simpa using hz), List.append_nil]
      · rintro σ' H3 ⟨o5, o6, o7, rfl, e3, hf3⟩
        refine b_nil ⟨_, _, _, _, rfl, e3, ?_⟩
        rw [hiL2]
        exact hf3
    · rintro σ' H2 ⟨o4, o5, o6, o7, rfl, e2, hf2⟩
      have hlen := lnr_len L c (A * L)
      exact b_retl (v_sorted B.sorted (v_l 3 rfl (SqL.of hf2) (tds_ints _)) (by omega)) fun v H3 e3 r => hq v H3 (e2.trans e3) (r.ext e2)
end
end SL

set_option maxHeartbeats 4000000
/-! the law's own hangs, takings, behind -/
namespace SL
open PySem PySem.Spec PyProof.Rows L2 GxR GX StX

theorem BM.adds {A L x : Nat} {S : List Nat} {E' : Nat → Prop} : ∀ {ys F : List Nat}, BM A L S F E' → x ∈ F → ys.Nodup → (∀ y, y ∈ ys → y ∈ nearF A L x ∧ y ∈ S ∧ y ∉ F ∧ E' y) → BM A L S (F ++ ys) E'
  | [], F, b, _, _, _ => by rw [List.append_nil]; exact b
  | y :: ys, F, b, hx, hn, h => by
    have hy := h y List.mem_cons_self
    have hn' := List.nodup_cons.mp hn
    have := BM.adds (ys := ys) (F := F ++ [y]) (b.add hx hy.1 hy.2.1 hy.2.2.1 (fun _ z => z) hy.2.2.2) (List.mem_append_left _ hx) hn'.2 fun z hz => by
      have hz' := h z (List.mem_cons_of_mem _ hz)
      refine ⟨hz'.1, hz'.2.1, fun hm => ?_, hz'.2.2.2⟩
      rcases List.mem_append.mp hm with hm | hm
      · exact hz'.2.2.1 hm
      · rw [List.mem_singleton.mp hm] at hz
        exact hn'.1 hz
    rw [List.append_assoc] at this
    exact this
theorem BM.exem {A L : Nat} {S F : List Nat} {E E' : Nat → Prop} (b : BM A L S F E) (h : ∀ z, E z → E' z) : BM A L S F E' := b.less fun z _ h1 h2 => absurd (h z h1) h2
theorem t_inB {X : Cx} {σ : L2.St} {H : Hp} {a b : Expr} {q : Bool} {pos : Pos} (h : EW X σ H (.BoolOp .And [a] pos) q) : EW X σ H (.BoolOp .And [a] pos) q := h

section
variable {P : Program} {w : World} {K : PySem.W.Frag} {mg : Str → Option Value} {base : Heap}
def lhangS (as : List AD) (r : AD) : Prop := ∃ (A L : Nat) (S : List Nat), as = [.d (nd A), .d (nd L), .l (S.map nd)] ∧ A ≤ 4 ∧ 0 < L ∧ L ≤ 4 ∧ S.Nodup ∧ (∀ c, c ∈ S → c < 1 + A * L) ∧ S ≠ [] ∧ r = .d (.bl (hangF L S))
theorem ok_law_hangs {f : Addr} {fd : FuncData} {T : List Addr} (F : Fun K "_law_hangs" "_law_hangs" t_law_hangs f fd) (B : Bt mg) (N : Clb P w K mg base 1 "_law_near" (spR K T lnearS)) : Ok0 P w K mg base 2 f fd p_law_hangs T lhangS := by
  refine okR F sc_law_hangs (fun as r h => ?_) (fun cdv Ar outer s H vs Q E as r hcd hr hT ha hs hq => ?_)
  · obtain ⟨A, L, S, rfl, _⟩ := h
    rfl
  · obtain ⟨A, L, S, rfl, hA4, hL, hL4, hnd, hS, hne, rfl⟩ := hs
    have nd := sc_law_hangs.nd
    have hu : (Ar.deeper (envOfC "_law_hangs" (defScope t_law_hangs) s.heap.objs.size f cdv)).units + 64 < cLine := by have := hr.un; omega
    have hAL : A * L ≤ 16 := Nat.mul_le_mul hA4 hL4
    obtain ⟨a, b, c, rfl, a1, a2, ps, xs, rfl, hps, hxs⟩ := ars3 ha
    cases a1
    cases a2
    rw [tds_int_inv hxs] at hps
    have hSl : S.length ≤ 17 := by
      have := nodup_len (S := List.range (1 + A * L)) hnd fun x hx => List.mem_range.mpr (hS x hx)
      rw [List.length_range] at this
      omega
    obtain ⟨s0, S', hS0⟩ : ∃ s S', S = s :: S' := by
      cases S with
      | nil => exact absurd rfl hne
      | cons s S' => exact ⟨s, S', rfl⟩
    have hcut : cutD (S.map SL.nd) none (some (1 : Nat)) = [s0].map SL.nd := by
      rw [cut_to S (j := 1) (by rw [hS0]; simp), hS0]
      rfl
    refine b_tup2 3 4 (EV.toN (v_sliceL (v_l 2 rfl hps (tds_ints S)) o_none (o_some (v_num (n := 1)))) hcut) (EV.toN (v_sliceL (v_l 2 rfl hps (tds_ints S)) o_none (o_some (v_num (n := 1)))) hcut) fun v w' H1 H2 H3 e1 e2 e3 r1 r2 => ?_
    obtain ⟨pf, fs, rfl, hf0, hf1, hf2⟩ := r1
    obtain ⟨pr, rs, rfl, hr0, hr1, hr2⟩ := r2
    rw [tds_int_inv hf2] at hf1
    rw [tds_int_inv hr2] at hr1
    have e13 := (e1.trans e2).trans e3
    refine b_while (fun m σ H' => ∃ (F' R : List Nat) (pf pr : Addr) (o5 o6 o7 : Option V), σ = [some (nv A), some (nv L), some (.ref ps), some (.ref pf), some (.ref pr), o5, o6, o7] ∧ Ext H H' ∧ H' pf = some (.lst (F'.map nv)) ∧ H' pr = some (.lst (R.map nv)) ∧
          BM A L S F' (fun x => x ∈ R) ∧ (∀ x, x ∈ R → x ∈ F') ∧ m = 2 * (S.length - F'.length) + (if R = [] then 0 else 1)) ⟨_, [s0], [s0], pf, pr, none, none, none, rfl, e13, (e2.trans e3).lst hf1, e3.lst hr1, ?_, fun _ z => z, rfl⟩ ?_
    · have := BM.start (A := A) (L := L) (S := S) (s := s0) (by rw [hS0]; rfl)
      exact this.exem fun z h1 => by simp [h1]
    rintro m σ H5 ⟨F', R, pf, pr, o5, o6, o7, rfl, e5, hpf, hpr, bm, hRF, rfl⟩
    refine ⟨!(R.map SL.nd).isEmpty, t_neL hu (v_l 4 rfl (SqL.of hpr) (tds_ints R)) (by rw [deps_nd]; omega), fun hz2 H6 e6 => ?_, fun hz2 H6 e6 => ?_⟩
    · have hRne : R ≠ [] := by simpa using hz2
      refine b_set 5 (v_lst (ds := []) a_nil (Nat.zero_le _)) fun v H7 e7 ⟨pm, ms, hv, hm0, hm1, hm2⟩ => ?_
      subst hv
      have hm2 := hm2.nil_
      subst hm2
      have e57 := (e5.trans e6).trans e7
      have e67 := e6.trans e7
      refine b_forL (ds := R.map SL.nd) (R := isr (.ref pr)) 6 (v_r 4 rfl) fun v H8 e8 rv => ⟨pr, R.map nv, fun i σ' H' => ∃ (M : List Nat) (pm : Addr) (o6 o7 : Option V), σ' = [some (nv A), some (nv L), some (.ref ps), some (.ref pf), some (.ref pr), some (.ref pm), o6, o7] ∧ Ext H H' ∧
          H' pf = some (.lst (F'.map nv)) ∧ H' pr = some (.lst (R.map nv)) ∧ H' pm = some (.lst (M.map nv)) ∧ BM A L S (F' ++ M) (fun x => x ∈ R.drop i ∨ x ∈ M),
        rv, SqL.of ((e67.trans e8).lst hpr), tds_ints R, ⟨[], pm, o6, o7, rfl, e57.trans e8, (e67.trans e8).lst hpf, (e67.trans e8).lst hpr, e8.lst hm1, ?_⟩, ?_, ?_, ?_⟩
      · rw [List.append_nil]
        exact bm.exem fun z h1 => .inl (by simpa using h1)
      · rintro i σ' H' ⟨M, pm, o6, o7, _, _, _, h, _⟩
        exact ⟨SqL.of h, tds_ints R⟩
      · rintro i d v σ' H9 hd hv ⟨M, pm, o6, o7, rfl, e9, hf9, hr9, hm9, bm9⟩
        obtain ⟨x, hx, rfl⟩ := nd_get hd
        have hv := int_inv hv
        subst hv
        have hxR : x ∈ R := List.mem_of_getElem? hx
        have hxF := hRF x hxR
        have hxS := bm.sub x hxF
        have hdrop : R.drop i = x :: R.drop (i + 1) := by
          have hi : i < R.length := (List.getElem?_eq_some_iff.mp hx).1
          rw [List.drop_eq_getElem_cons hi]
          congr 1
          rw [List.getElem?_eq_getElem hi] at hx
          exact Option.some.inj hx
        have hxb := hS x hxS
        have hnl := nearL_len A L x
        have hbl := bm9.len
        rw [List.length_append] at hbl
        let ys := (nearL A L x).filter fun y => decide (y ∈ S) && (!decide (y ∈ F') && !decide (y ∈ M))
        refine b_set 5 (v_cat (es := ys.map SL.nd) (v_h 5 rfl hm9 (tds_ints M)) (EV.hd (EV.toN (v_lcL 7 (ds := (nearL A L x).map SL.nd) (q := fun j => (fun y => decide (y ∈ S) && (!decide (y ∈ F') && !decide (y ∈ M))) ((nearL A L x).getD j 0)) (gd := fun j => SL.nd ((nearL A L x).getD j 0))
          (EV.rd (v_clL N hr (hT.ext e9) (a_d (v_n 0 rfl (.int _)) (a_d (v_n 1 rfl (.int _)) (a_d (v_n 6 rfl (.int _)) a_nil))) ⟨A, L, x, rfl, hA4, hL, hL4, hxb, rfl⟩)) (by rw [len_nd, sizeLine_eq]; omega) fun j d v H' hd hv e' s' H0 C cl fp => ?_) ?_)) ?_) fun v H10 e10 ⟨pm', ms, hv, hm0, hm1, hm2⟩ => b_nil ?_
        · obtain ⟨y, hy, rfl⟩ := nd_get hd
          have hv := int_inv hv
          subst hv
          have hgy : (nearL A L x).getD j 0 = y := by
            rw [List.getD_eq_getElem?_getD, hy]; rfl
          rw [hgy]
          exact ⟨c_one (t_w (w_and (t_inr (v_n 7 rfl (.int _)) (v_l 2 rfl ((e9.trans e').sql hps) (tds_ints S))) fun _ => w_and (t_notInr (v_n 7 rfl (.int _)) (v_l 3 rfl (SqL.of (e'.lst hf9)) (tds_ints F'))) fun _ => w_and1 (t_notInr (v_n 7 rfl (.int _)) (v_l 5 rfl (SqL.of (e'.lst hm9)) (tds_ints M))))), fun _ => v_n 7 rfl (.int _)⟩
        · rw [len_nd, range_fm (fun y => decide (y ∈ S) && (!decide (y ∈ F') && !decide (y ∈ M))) SL.nd]
        · have := List.length_filter_le (fun y => decide (y ∈ S) && (!decide (y ∈ F') && !decide (y ∈ M))) (nearL A L x)
          rw [len_nd, len_nd, sizeLine_eq]
          show M.length + ys.length ≤ _
          have : ys.length ≤ (nearL A L x).length := this
          omega
        · subst hv
          rw [← List.map_append] at hm2
          have hm2' := tds_int_inv hm2
          subst hm2'
          refine ⟨M ++ ys, pm', _, _, rfl, e9.trans e10, e10.lst hf9, e10.lst hr9, hm1, ?_⟩
          have hys : ∀ y, y ∈ ys ↔ y ∈ nearF A L x ∧ y ∈ S ∧ y ∉ F' ∧ y ∉ M := fun y => by
            show y ∈ List.filter _ _ ↔ _
            rw [List.mem_filter, nearL_mem hL hxb]
            simp
          have b1 : BM A L S (F' ++ M ++ ys) (fun z => z ∈ R.drop i ∨ z ∈ M ++ ys) := by
            refine BM.adds (x := x) (bm9.exem fun z h => h.imp_right fun h => List.mem_append_left _ h) (List.mem_append_left _ hxF) ((nearL_nodup A L x).filter _) fun y hy => ?_
            have := (hys y).mp hy
            exact ⟨this.1, this.2.1, fun h => (List.mem_append.mp h).elim this.2.2.1 this.2.2.2, .inr (List.mem_append_right _ hy)⟩
          rw [← List.append_assoc]
          refine b1.less fun z hz h1 h2 y hy hyS => ?_
          rcases h1 with h1 | h1
          · rw [hdrop] at h1
            rcases List.mem_cons.mp h1 with h1 | h1
            · subst h1
              by_cases q1 : y ∈ F'
              · exact List.mem_append_left _ (List.mem_append_left _ q1)
              · by_cases q2 : y ∈ M
                · exact List.mem_append_left _ (List.mem_append_right _ q2)
                · exact List.mem_append_right _ ((hys y).mpr ⟨hy, hyS, q1, q2⟩)
            · exact absurd (.inl h1) h2
          · exact absurd (.inr h1) h2
      · rintro σ' H9 ⟨M, pm, o6, o7, rfl, e9, hf9, hr9, hm9, bm9⟩
        have hbl := bm9.len
        rw [List.length_append] at hbl
        rw [len_nd] at bm9
        refine b_tup2 3 4 (v_cat (v_h 3 rfl hf9 (tds_ints F')) (v_h 5 rfl hm9 (tds_ints M)) (by rw [len_nd, len_nd, sizeLine_eq]; omega)) (R2' := isr (.ref pm)) (v_r 5 rfl) fun v u H10 H11 H12 e10 e11 e12 ⟨pf', fs, hv, hf0, hf1, hf2⟩ ru => b_nil ?_
        subst hv
        rw [show u = .ref pm from ru]
        rw [← List.map_append] at hf2
        have hf2' := tds_int_inv hf2
        subst hf2'
        refine ⟨2 * (S.length - (F' ++ M).length) + (if M = [] then 0 else 1), ?_, F' ++ M, M, pf', pm, _, _, _, rfl, ((e9.trans e10).trans e11).trans e12, (e11.trans e12).lst hf1, ((e10.trans e11).trans e12).lst hm9, bm9.less (fun z _ h1 h2 => ?_), fun x hx => List.mem_append_right _ hx, rfl⟩
        · rw [if_neg hRne, List.length_append]
          by_cases hM : M = []
          · subst hM
            rw [if_pos rfl]
            simp
          · have : 0 < M.length := List.length_pos_iff.mpr hM
            rw [if_neg hM]
            omega
        · rcases h1 with h1 | h1
          · simp at h1
          · exact absurd h1 h2
    · have hR0 : R = [] := by simpa using hz2
      subst hR0
      refine b_retd ((v_and (q := true) (r := F'.length == S.length) ((v_neL hu (v_l 2 rfl ((e5.trans e6).sql hps) (tds_ints S)) (by rw [deps_nd]; omega)).to (by rw [hS0]; rfl)) fun _ => v_and1 ((v_eqn ((v_lenL B.len (v_l 3 rfl (SqL.of (e6.lst hpf)) (tds_ints F'))).to (by rw [len_nd]; rfl)) ((v_lenL B.len (v_l 2 rfl ((e5.trans e6).sql hps) (tds_ints S))).to (by rw [len_nd]; rfl))))).to ?_) fun v H' e r => hq v H' ((e5.trans e6).trans e) r
      rw [Bool.true_and, hang_found hL hnd hS hne (bm.less fun z _ h1 _ => by cases h1)]
end
end SL

set_option maxHeartbeats 4000000
/-! the law's own takings, behind, alike -/
namespace SL
open PySem PySem.Spec PyProof.Rows L2 GxR GX StX

theorem isEmpty_nd (l : List Nat) : (l.map nd).isEmpty = l.isEmpty := by cases l <;> rfl
section
variable {P : Program} {w : World} {K : PySem.W.Frag} {mg : Str → Option Value} {base : Heap}
theorem made_eq {A L : Nat} {cs : List Nat} {l c : Nat} (hL : 0 < L) (hc : c < 1 + A * L) :
    madeF A L cs l c = (((cs.getD c 0 != l) && !(((nearL A L c).filter fun o => cs.getD o 0 == l).isEmpty)) && ((!(((heldF cs (cs.getD c 0)).filter fun o => o != c).isEmpty)) && hangF L ((heldF cs (cs.getD c 0)).filter fun o => o != c))) := by
  have h1 : (!(((nearL A L c).filter fun o => cs.getD o 0 == l).isEmpty)) = (nearF A L c).any (fun o => cs.getD o 0 == l) := by
    rw [Bool.eq_iff_iff, List.any_eq_true, Bool.not_eq_true', List.isEmpty_eq_false_iff_exists_mem]
    constructor
    · rintro ⟨x, hx⟩
      have := List.mem_filter.mp hx
      exact ⟨x, (nearL_mem hL hc x).mp this.1, this.2⟩
    · rintro ⟨x, hx, h⟩
      exact ⟨x, List.mem_filter.mpr ⟨(nearL_mem hL hc x).mpr hx, h⟩⟩
  rw [h1]
  unfold madeF
  cases e : ((heldF cs (cs.getD c 0)).filter fun o => o != c) with
  | nil => simp [hangF]
  | cons a r => simp
def lallS (as : List AD) (r : AD) : Prop := ∃ (A L k : Nat) (cs : List Nat), as = [.d (chd (A, cs))] ∧ Wf A L k cs ∧ r = .l ((takF A L k cs).map tkd)
theorem ok_law_takings {f : Addr} {fd : FuncData} {T : List Addr} (F : Fun K "_law_takings" "_law_takings" t_law_takings f fd) (B : Bt mg) (N : Clb P w K mg base 1 "_law_near" (spR K T lnearS)) (Hg : Clb P w K mg base 2 "_law_hangs" (spR K T lhangS)) : Ok0 P w K mg base 3 f fd p_law_takings T lallS := by
  refine okR F sc_law_takings (fun as r h => ?_) (fun cdv Ar outer s H vs Q E as r hcd hr hT ha hs hq => ?_)
  · obtain ⟨A, L, k, cs, rfl, _⟩ := h
    rfl
  · obtain ⟨A, L, k, cs, rfl, W, rfl⟩ := hs
    have nd := sc_law_takings.nd
    have hu : (Ar.deeper (envOfC "_law_takings" (defScope t_law_takings) s.heap.objs.size f cdv)).units + 64 < cLine := by have := hr.un; omega
    obtain ⟨a, rfl, a1⟩ := arsd1 ha
    have hAL := W.AL
    have hA3 := W.A3
    have hA4 := W.A4
    have hL1 := W.L1
    have hL3 := W.L3
    have hlen := W.len
    have hkL := W.kL
    refine b_unp 2 3 (d1 := SL.nd A) (d2 := lnd cs) (v_n 0 rfl a1) fun u vc H1 e1 t1 t2 => ?_
    cases t1
    refine b_par 4 5 (v_fdivn (v_subn ((v_lenT B.len (v_n 3 rfl t2)).to (by rw [len_nd]; rfl)) (v_num (n := 1)) (by omega)) (v_n 2 rfl (.int _)) (by omega) (by omega)) (v_lst (ds := []) a_nil (Nat.zero_le _)) fun v w' H2 H3 e2 e3 r1 r2 => ?_
    have r1 := int_inv r1
    rw [W.divL] at r1
    subst r1
    obtain ⟨pf, xs, rfl, hf0, hf1, hf2⟩ := r2
    have e13 := (e1.trans e2).trans e3
    have hHpf : H pf = none := (e1.trans e2).free hf0
    have vc3 := t2.mono (e2.trans e3).tk
    let tk : Nat → List (Nat × Nat) := fun n => (List.range n).flatMap fun l => ((List.range cs.length).filter fun c => madeF A L cs l c).map fun c => (l, c)
    have htk : ∀ n, tk (n + 1) = tk n ++ ((List.range cs.length).filter fun c => madeF A L cs n c).map fun c => (n, c) := fun n => by
      show List.flatMap _ _ = _
      rw [List.range_succ, List.flatMap_append]
      simp [tk]
    refine b_forR 1 (m := k) ((v_addn (v_maxT rfl B.max (v_n 3 rfl vc3) W.ne) (v_num (n := 1))).to (by rw [W.max])) (by omega) (fun i σ' H' => ∃ xs o1 o6 o7 o8 o9, σ' = [some a, o1, some (nv A), some vc, some (nv L), some (.ref pf), o6, o7, o8, o9] ∧ Ext H H' ∧ TD K H' vc (lnd cs) ∧ H' pf = some (.lst xs) ∧ TDs K H' xs ((tk i).map tkd))
      (fun H4 e4 => ⟨xs, _, _, _, _, _, rfl, e13.trans e4, vc3.mono e4.tk, e4.lst hf1, hf2.mono e4.tk⟩) ?_ ?_ B.range
    · rintro i σ' H4 hi ⟨xs, o1, o6, o7, o8, o9, rfl, e4, vc4, hf4, hx4⟩
      have hbl := tak_len (A := A) (L := L) (k := k) (cs := cs) i
      have hbl : (tk i).length ≤ i * cs.length := hbl
      have hbm : i * cs.length ≤ 4 * 13 := Nat.mul_le_mul (by omega) (by omega)
      refine b_forR 6 (m := cs.length) ((v_lenT B.len (v_n 3 rfl vc4)).to (by rw [len_nd]; rfl)) (by omega) (fun j σ' H' => ∃ xs o6 o7 o8 o9, σ' = [some a, some (nv i), some (nv A), some vc, some (nv L), some (.ref pf), o6, o7, o8, o9] ∧ Ext H H' ∧ TD K H' vc (lnd cs) ∧ H' pf = some (.lst xs) ∧ TDs K H' xs ((tk i ++ ((List.range j).filter fun c => madeF A L cs i c).map fun c => (i, c)).map tkd))
        (fun H5 e5 => ⟨xs, _, _, _, _, rfl, e4.trans e5, vc4.mono e5.tk, e5.lst hf4, by simpa using hx4.mono e5.tk⟩) ?_ ?_ B.range
      · rintro j σ' H5 hj ⟨xs, o6, o7, o8, o9, rfl, e5, vc5, hf5, hx5⟩
        have hjb : j < 1 + A * L := by omega
        have hnl := nearL_len A L j
        have hme := made_eq (cs := cs) (l := i) hL1 hjb
        have hstep : ∀ (b : Bool), madeF A L cs i j = b → (((List.range (j + 1)).filter fun c => madeF A L cs i c).map fun c => (i, c)) = (((List.range j).filter fun c => madeF A L cs i c).map fun c => (i, c)) ++ (if b = true then [(i, j)] else []) := fun b hb => by
          rw [filter_range_succ, List.map_append, hb]
          split <;> rfl
        have hxl : xs.length < 200 := by
          have h1 := List.length_filter_le (fun c => madeF A L cs i c) (List.range j)
          rw [List.length_range] at h1
          rw [hx5.length, List.length_map, List.length_append, List.length_map]
          omega
        refine b_set 7 (v_ixT (n := j) (v_n 3 rfl vc5) (v_n 6 rfl (.int _)) (map_get (getD_get hj))) fun v H6 e6 r6 => ?_
        have r6 := int_inv r6
        subst r6
        refine b_if (q := (cs.getD j 0 != i) && !(((nearL A L j).filter fun o => cs.getD o 0 == i).isEmpty)) (t_w (w_and (t_nen (v_n 7 rfl (.int _)) (v_n 1 rfl (.int _))) fun _ => w_and1 ((t_neL hu (EV.rd (EV.toN (es := ((nearL A L j).filter fun o => cs.getD o 0 == i).map SL.nd) (v_lcL 9 (ds := (nearL A L j).map SL.nd) (q := fun t => (fun o => cs.getD o 0 == i) ((nearL A L j).getD t 0)) (gd := fun t => SL.nd ((nearL A L j).getD t 0))
            (EV.rd (v_clL N hr (hT.ext (e5.trans e6)) (a_d (v_n 2 rfl (.int _)) (a_d (v_n 4 rfl (.int _)) (a_d (v_n 6 rfl (.int _)) a_nil))) ⟨A, L, j, rfl, hA4, hL1, by omega, hjb, rfl⟩)) (by rw [len_nd, sizeLine_eq]; omega) fun t d v H' hd hv e' s' H0 C cl fp => ?_) ?_)) (by rw [deps_nd]; omega)).to (by rw [isEmpty_nd])))) (fun hz H7 e7 => ?_) (fun hz H7 e7 => ?_)
        · obtain ⟨y, hy, rfl⟩ := nd_get hd
          have hv := int_inv hv
          subst hv
          have hgy : (nearL A L j).getD t 0 = y := by
            rw [List.getD_eq_getElem?_getD, hy]; rfl
          rw [hgy]
          have hyb : y < cs.length := by
            have := near_lt hL1 hjb ((nearL_mem hL1 hjb y).mp (List.mem_of_getElem? hy))
            omega
          exact ⟨c_one (t_eqn (v_ixT (n := y) (v_n 3 rfl (vc5.mono (e6.trans e').tk)) (v_n 9 rfl (.int _)) (map_get (getD_get hyb))) (v_n 1 rfl (.int _))), fun _ => v_n 9 rfl (.int _)⟩
        · rw [len_nd, range_fm (fun o => cs.getD o 0 == i) SL.nd]
        · let rest := (heldF cs (cs.getD j 0)).filter fun o => o != j
          have hrest : rest = (List.range cs.length).filter fun o => (cs.getD o 0 == cs.getD j 0) && (o != j) := by
            show List.filter _ (List.filter _ _) = _
            rw [List.filter_filter]
            refine List.filter_congr fun x _ => ?_
            rw [Bool.and_comm]
          have e57 := e6.trans e7
          refine b_setLcR 8 9 (m := cs.length) (q := fun o => (cs.getD o 0 == cs.getD j 0) && (o != j)) (gd := SL.nd) ((v_lenT B.len (v_n 3 rfl (vc5.mono e57.tk))).to (by rw [len_nd]; rfl)) (by omega) B.range (fun o H' ho e' s' H0 C cl fp => ⟨c_one (t_w (w_and (t_eqn (v_ixT (n := o) (v_n 3 rfl (vc5.mono (e57.trans e').tk)) (v_n 9 rfl (.int _)) (map_get (getD_get ho))) (v_n 7 rfl (.int _))) fun _ => w_and1 (t_nen (v_n 9 rfl (.int _)) (v_n 6 rfl (.int _))))), fun _ => v_n 9 rfl (.int _)⟩) fun v H8 e8 ⟨pr, rs, hv, hr0, hr1, hr2⟩ => ?_
          rw [← hrest] at hr2
          subst hv
          have hr2' := tds_int_inv hr2
          subst hr2'
          have e58 := e57.trans e8
          refine b_if (q := (!rest.isEmpty) && hangF L rest) (t_w (w_and ((t_neL hu (v_l 8 rfl (SqL.of hr1) (tds_ints rest)) (by rw [deps_nd]; omega)).to (by rw [isEmpty_nd])) fun hne => w_and1 (t_b (v_cl Hg hr (hT.ext (e5.trans e58)) (a_d (v_n 2 rfl (.int _)) (a_d (v_n 4 rfl (.int _)) (a_l (v_l 8 rfl (SqL.of hr1) (tds_ints rest)) a_nil))) ⟨A, L, rest, rfl, hA4, hL1, by omega, (held_nodup _ _).filter _, fun x hx => ?_, ?_, rfl⟩)))) (fun hz2 H9 e9 => ?_) (fun hz2 H9 e9 => ?_)
          · have := (held_mem.mp (List.mem_filter.mp hx).1).1
            omega
          · intro z
            rw [z] at hne
            cases hne
          · have hm : madeF A L cs i j = true := by
              rw [hme, hz]
              exact hz2
            refine b_app 5 rfl ((e58.trans e9).lst hf5) (v_tup (ds := [SL.nd i, SL.nd j]) (a_d (v_n 1 rfl (.int _)) (a_d (v_n 6 rfl (.int _)) a_nil)) (by simp [sizeLine_eq])) (by rw [sizeLine_eq]; omega) fun v H10 e10 rv => b_nil (b_nil (b_nil ?_))
            have e510 := (e58.trans e9).trans e10
            have hl10 := e510.lst hf5
            refine ⟨xs ++ [v], _, _, _, _, rfl, (e5.trans e510).mut hHpf, vc5.mono (e510.tk.trans (Tk.mutL hl10)), upd_same, ?_⟩
            rw [hstep true hm, if_pos rfl, ← List.append_assoc, List.map_append]
            exact (hx5.mono (e510.tk.trans (Tk.mutL hl10))).append (.cons (TD.mono rv (Tk.mutL hl10)) .nil)
          · have hm : madeF A L cs i j = false := by
              rw [hme, hz]
              exact hz2
            have e59 := e58.trans e9
            refine b_nil (b_nil (b_nil ⟨xs, _, _, _, _, rfl, e5.trans e59, vc5.mono e59.tk, e59.lst hf5, ?_⟩))
            rw [hstep false hm, if_neg (by simp), List.append_nil]
            exact hx5.mono e59.tk
        · have hm : madeF A L cs i j = false := by
            rw [hme, hz]
            rfl
          have e57 := e6.trans e7
          refine b_nil (b_nil ⟨xs, _, _, _, _, rfl, e5.trans e57, vc5.mono e57.tk, e57.lst hf5, ?_⟩)
          rw [hstep false hm, if_neg (by simp), List.append_nil]
          exact hx5.mono e57.tk
      · rintro σ' H5 ⟨xs, o6, o7, o8, o9, rfl, e5, vc5, hf5, hx5⟩
        refine b_nil ⟨xs, _, _, _, _, _, rfl, e5, vc5, hf5, ?_⟩
        rw [htk]
        exact hx5
    · rintro σ' H4 ⟨xs, o1, o6, o7, o8, o9, rfl, e4, vc4, hf4, hx4⟩
      exact b_retS 5 rfl hf4 hx4 fun H' e hl hd => hq _ H' (e4.trans e) ⟨pf, xs, rfl, hHpf, hl, hd⟩

theorem ok_law_behind {f : Addr} {fd : FuncData} {T : List Addr} (F : Fun K "_law_behind" "_law_behind" t_law_behind f fd) : Ok0 P w K mg base 1 f fd p_law_behind T tknS := by
  refine okR F sc_law_behind (fun as r h => ?_) (fun cdv Ar outer s H vs Q E as r hcd hr hT ha hs hq => ?_)
  · obtain ⟨A, cs, l, c, rfl, _⟩ := h
    rfl
  · obtain ⟨A, cs, l, c, rfl, hc, hn, rfl⟩ := hs
    have nd := sc_law_behind.nd
    obtain ⟨a, b, rfl, a1, a2⟩ := arsd2 ha
    refine b_unp 2 3 (v_n 1 rfl a2) fun u v H1 e1 t1 t2 => ?_
    cases t1
    cases t2
    have a1 := a1.mono e1.tk
    refine b_retd (v_tup (ds := [SL.nd A, lnd (cs.set c l)]) (a_d (v_ixT (n := 0) (v_n 0 rfl a1) (v_num (n := 0)) rfl) (a_d (EV.to (v_catT (v_catT (ds := (cs.take c).map SL.nd) (es := [SL.nd l]) ((v_sliceT (v_ixT (n := 1) (v_n 0 rfl a1) (v_num (n := 1)) rfl) o_none (o_some (v_n 3 rfl (.int _)))).to (congrArg Dat.tup (cut_to cs (j := c) (by omega)))) (v_tup (a_d (v_n 2 rfl (.int _)) a_nil) (by simp [sizeLine_eq])) ?_)
      ((v_sliceT (v_ixT (n := 1) (v_n 0 rfl a1) (v_num (n := 1)) rfl) (o_some (v_addn (v_n 3 rfl (.int _)) (v_num (n := 1)))) o_none).to (congrArg Dat.tup (cut_from cs (i := c + 1) (by omega)))) ?_) ?_) a_nil)) (by simp [sizeLine_eq])) fun v H' e r => hq v H' (e1.trans e) r
    · simp [sizeLine_eq]; omega
    · simp [sizeLine_eq]; omega
    · rw [set_cut hc]
      simp [lnd]
end
end SL

set_option maxHeartbeats 4000000
/-! the law's own search over all maps -/
namespace SL
open PySem PySem.Spec PyProof.Rows L2 GxR GX StX

section
variable {α : Type} [DecidableEq α]
structure FI (out : α → List (α × Nat)) (s : α) (Ks : List α) (E : α → Prop) : Prop where
  nd : Ks.Nodup
  st : s ∈ Ks
  snd : ∀ m, m ∈ Ks → ∃ v, Way out s m v
  cl : ∀ m, m ∈ Ks → ¬ E m → ∀ e, e ∈ out m → e.1 ∈ Ks
variable {out : α → List (α × Nat)} {s : α} {U Ks : List α} {E E' : α → Prop}
theorem FI.add (f : FI out s Ks E) {m : α} {e : α × Nat} (hm : m ∈ Ks) (he : e ∈ out m) (hn : e.1 ∉ Ks) (h1 : ∀ z, E z → E' z) (h2 : E' e.1) : FI out s (Ks ++ [e.1]) E' where
  nd := by
    rw [List.nodup_append]
    refine ⟨f.nd, by simp, fun a ha b hb z => ?_⟩
    rw [List.mem_singleton.mp hb] at z
    rw [z] at ha
    exact hn ha
  st := List.mem_append_left _ f.st
  snd := fun x hx => by
    rcases List.mem_append.mp hx with h | h
    · exact f.snd x h
    · rw [List.mem_singleton.mp h]
      obtain ⟨v, hv⟩ := f.snd m hm
      exact ⟨_, Way.step (t := v.1) (n := v.2) (w := e.2) hv he⟩
  cl := fun x hx hE y hy => by
    rcases List.mem_append.mp hx with h | h
    · exact List.mem_append_left _ (f.cl x h (fun z => hE (h1 x z)) y hy)
    · rw [List.mem_singleton.mp h] at hE
      exact absurd h2 hE
theorem FI.less (f : FI out s Ks E) (h : ∀ z, z ∈ Ks → E z → ¬ E' z → ∀ e, e ∈ out z → e.1 ∈ Ks) : FI out s Ks E' where
  nd := f.nd
  st := f.st
  snd := f.snd
  cl := fun x hx hn y hy => by
    rcases Classical.em (E x) with e | e
    · exact h x hx e hn y hy
    · exact f.cl x hx e y hy
theorem FI.all (f : FI out s Ks (fun _ => False)) {m : α} {v : Lab} (h : Way out s m v) : m ∈ Ks := by
  induction h with
  | refl => exact f.st
  | step h1 h2 ih => exact f.cl _ ih (fun z => z) _ h2
theorem FI.len (f : FI out s Ks E) (G : Gr out s U) : Ks.length ≤ U.length := nodup_len f.nd fun x hx => by
  obtain ⟨v, hv⟩ := f.snd x hx
  exact G.un x v hv
end
theorem deps_chd : ∀ l : List Map, Dat.deps (l.map chd) ≤ 2
  | [] => by simp [Dat.deps]
  | m :: l => by
    have := deps_chd l
    have h : (chd m).dep = 2 := by
      unfold chd
      simp only [Dat.dep, Dat.deps, dep_lnd, nd]
      rfl
    rw [List.map_cons, Dat.deps, h]
    omega
section
variable {P : Program} {w : World} {K : PySem.W.Frag} {mg : Str → Option Value} {base : Heap}
def spFrom (P : Program) (w : World) (K : PySem.W.Frag) (T : List Addr) : Sp := fun vs H Q _ => Tabs T H ∧ ∃ (A L k : Nat) (cs : List Nat) (U : List Map) (v : V), vs = [v] ∧ TD K H v (chd (A, cs)) ∧ Wf A L k cs ∧ GrW A L k (A, cs) U ∧
  ∀ d H' (F : List (Map × Nat)), Ext H H' → H d = none → DV P w K nd H' d F → FI (outM A L k) (A, cs) (keysB F) (fun _ => False) → Q (.ref d) H'
theorem ok_law_from {f : Addr} {fd : FuncData} {T : List Addr} (F : Fun K "_law_from" "_law_from" t_law_from f fd) (B : Bt mg) (At : Clb P w K mg base 3 "_law_takings" (spR K T lallS)) (Bh : Clb P w K mg base 1 "_law_behind" (spR K T tknS)) :
    FnOk P w K mg base CX0 4 f fd p_law_from (spFrom P w K T) := by
  refine okW F sc_law_from (fun vs H Q E h => ?_) (fun cdv Ar outer s H vs Q E hcd hr h => ?_)
  · obtain ⟨_, A, L, k, cs, U, v, rfl, _⟩ := h
    rfl
  · obtain ⟨hT, A, L, k, cs, U, a, rfl, a1, W, G, hq⟩ := h
    have nd := sc_law_from.nd
    have hu : (Ar.deeper (envOfC "_law_from" (defScope t_law_from) s.heap.objs.size f cdv)).units + 64 < cLine := by have := hr.un; omega
    have hu20 : (Ar.deeper (envOfC "_law_from" (defScope t_law_from) s.heap.objs.size f cdv)).units + 20 < cLine := by have := hr.un; omega
    refine b_par 1 2 (v_oneM (val := SL.nd) (v := (0 : Nat)) hu20 (v_n 0 rfl a1) (v_num (n := 0))) (v_lst (ds := [chd (A, cs)]) (a_d (v_n 0 rfl a1) a_nil) (by simp [sizeLine_eq])) fun v w' H1 H2 e1 e2 r1 r2 => ?_
    obtain ⟨d, rfl, hd0, hd1⟩ := r1
    obtain ⟨pb, xs, rfl, hb0, hb1, hb2⟩ := r2
    have hul := G.ul
    refine b_while (fun m σ H' => ∃ (F : List (Map × Nat)) (Bl : List Map) (pb : Addr) (xs : List V) (o3 o4 o5 o6 : Option V), σ = [some a, some (.ref d), some (.ref pb), o3, o4, o5, o6] ∧ Ext H H' ∧ DV P w K SL.nd H' d F ∧ H' pb = some (.lst xs) ∧ TDs K H' xs (Bl.map chd) ∧
      FI (outM A L k) (A, cs) (keysB F) (fun x => x ∈ Bl) ∧ (∀ x, x ∈ Bl → x ∈ keysB F) ∧ m = 2 * (U.length - (keysB F).length) + (if Bl = [] then 0 else 1)) ⟨_, [((A, cs), 0)], [(A, cs)], pb, xs, none, none, none, none, rfl, e1.trans e2, hd1.ext e2, hb1, hb2, ⟨by simp [keysB], by simp [keysB], fun m hm => ?_, fun m hm hn => ?_⟩, fun x hx => by simpa [keysB] using hx, rfl⟩ ?_
    · have : m = (A, cs) := by simpa [keysB] using hm
      rw [this]
      exact ⟨_, .refl⟩
    · have : m = (A, cs) := by simpa [keysB] using hm
      exact absurd (by simp [this]) hn
    rintro m σ H3 ⟨F, Bl, pb, xs, o3, o4, o5, o6, rfl, e3, hd3, hb3, hx3, fi, hBF, rfl⟩
    refine ⟨!(Bl.map chd).isEmpty, t_neL hu (v_l 2 rfl (SqL.of hb3) hx3) (by have := deps_chd Bl; omega), fun hz H4 e4 => ?_, fun hz H4 e4 => ?_⟩
    · have hBne : Bl ≠ [] := by simpa using hz
      refine b_set 3 (v_lst (ds := []) a_nil (Nat.zero_le _)) fun v H5 e5 ⟨pm, ms, hv, hm0, hm1, hm2⟩ => ?_
      subst hv
      have hm2 := hm2.nil_
      subst hm2
      have e35 := e4.trans e5
      have hHm : H pm = none := (e3.trans e4).free hm0
      have npm : ∀ {q : Addr} {o : HO}, H4 q = some o → pm ≠ q := fun h z => by
        rw [z, h] at hm0
        cases hm0
      have npb : pm ≠ pb := npm (e4.lst hb3)
      refine b_forL (ds := Bl.map chd) (R := isr (.ref pb)) 4 (v_r 2 rfl) fun v H6 e6 rv => ⟨pb, xs, fun i σ' H' => ∃ (F2 : List (Map × Nat)) (M : List Map) (ms : List V) (o4 o5 o6 : Option V), σ' = [some a, some (.ref d), some (.ref pb), some (.ref pm), o4, o5, o6] ∧ Ext H H' ∧ H' pb = some (.lst xs) ∧ TDs K H' xs (Bl.map chd) ∧
          DV P w K SL.nd H' d F2 ∧ H' pm = some (.lst ms) ∧ TDs K H' ms (M.map chd) ∧ FI (outM A L k) (A, cs) (keysB F2) (fun x => x ∈ Bl.drop i ∨ x ∈ M) ∧ (∀ x, x ∈ Bl → x ∈ keysB F2) ∧ (∀ x, x ∈ M → x ∈ keysB F2) ∧ (keysB F2).length = (keysB F).length + M.length,
        rv, SqL.of ((e35.trans e6).lst hb3), hx3.mono (e35.trans e6).tk, ⟨F, [], [], o4, o5, o6, rfl, e3.trans (e35.trans e6), (e35.trans e6).lst hb3, hx3.mono (e35.trans e6).tk, hd3.ext (e35.trans e6), e6.lst hm1, .nil, fi.less (fun z _ h1 h2 => absurd (.inl (by simpa using h1)) h2), hBF, (fun x hx => by cases hx), by simp⟩, ?_, ?_, ?_⟩
      · rintro i σ' H' ⟨_, _, _, _, _, _, _, _, h1, h2, _⟩
        exact ⟨SqL.of h1, h2⟩
      · rintro i dd v σ' H7 hd hv ⟨F2, M, ms, o4, o5, o6, rfl, e7, hb7, hx7, hd7, hm7, hms7, fi7, hBF7, hMF7, hl7⟩
        obtain ⟨here, hh, rfl⟩ : ∃ here, Bl[i]? = some here ∧ dd = chd here := by
          rw [List.getElem?_map] at hd
          cases e : Bl[i]? with
          | none => rw [e] at hd; cases hd
          | some n => rw [e] at hd; exact ⟨n, rfl, (Option.some.inj hd).symm⟩
        have hi : i < Bl.length := (List.getElem?_eq_some_iff.mp hh).1
        have hdrop : Bl.drop i = here :: Bl.drop (i + 1) := by
          rw [List.drop_eq_getElem_cons hi]
          congr 1
          rw [List.getElem?_eq_getElem hi] at hh
          exact Option.some.inj hh
        have hhB : here ∈ Bl := List.mem_of_getElem? hh
        obtain ⟨lab, hlab⟩ := fi7.snd here (hBF7 here hhB)
        obtain ⟨hA, Wh⟩ := G.wf here lab hlab
        obtain ⟨A', ch⟩ := here
        have hA : A' = A := hA
        subst hA
        have Wh : Wf A' L k ch := Wh
        refine b_forL (ds := (takF A' L k ch).map tkd) 5 (v_clL At hr (hT.ext e7) (a_d (v_n 4 rfl hv) a_nil) ⟨A', L, k, ch, rfl, Wh, rfl⟩) fun v1 H9 e9 ⟨pn, ys, hv1, hn0, hn1, hn2⟩ => ?_
        refine ⟨pn, ys, fun j σ' H' => ∃ (F3 : List (Map × Nat)) (M : List Map) (ms : List V) (o5 o6 : Option V), σ' = [some a, some (.ref d), some (.ref pb), some (.ref pm), some v, o5, o6] ∧ Ext H H' ∧ H' pb = some (.lst xs) ∧ TDs K H' xs (Bl.map chd) ∧ TD K H' v (chd (A', ch)) ∧
            H' pn = some (.lst ys) ∧ TDs K H' ys ((takF A' L k ch).map tkd) ∧
            DV P w K SL.nd H' d F3 ∧ H' pm = some (.lst ms) ∧ TDs K H' ms (M.map chd) ∧ FI (outM A' L k) (A', cs) (keysB F3) (fun x => x ∈ Bl.drop i ∨ x ∈ M) ∧ (∀ x, x ∈ Bl → x ∈ keysB F3) ∧ (∀ x, x ∈ M → x ∈ keysB F3) ∧ (keysB F3).length = (keysB F).length + M.length ∧
            ∀ t, t ∈ (takF A' L k ch).take j → thereM (A', ch) t ∈ keysB F3,
          hv1, SqL.of hn1, hn2, ⟨F2, M, ms, _, _, rfl, e7.trans e9, e9.lst hb7, hx7.mono e9.tk, hv.mono e9.tk, hn1, hn2, hd7.ext e9, e9.lst hm7, hms7.mono e9.tk, fi7, hBF7, hMF7, hl7, fun t ht => by simp at ht⟩, ?_, ?_, ?_⟩
        · rintro j σ' H' ⟨_, _, _, _, _, _, _, _, _, _, h1, h2, _⟩
          exact ⟨SqL.of h1, h2⟩
        · rintro j dd tv σ' H10 hdd htv ⟨F3, M, ms, o5, o6, rfl, e10, hb10, hx10, hv10, hn10, hy10, hd10, hm10, hms10, fi10, hBF10, hMF10, hl10, hdone⟩
          obtain ⟨tk, htk, rfl⟩ : ∃ tk, (takF A' L k ch)[j]? = some tk ∧ dd = tkd tk := by
            rw [List.getElem?_map] at hdd
            cases e : (takF A' L k ch)[j]? with
            | none => rw [e] at hdd; cases hdd
            | some n => rw [e] at hdd; exact ⟨n, rfl, (Option.some.inj hdd).symm⟩
          have htm : tk ∈ takF A' L k ch := List.mem_of_getElem? htk
          have hlt := tak_lt htm
          have heo : (thereM (A', ch) tk, stepN tk) ∈ outM A' L k (A', ch) := List.mem_map_of_mem htm
          have htake : (takF A' L k ch).take (j + 1) = (takF A' L k ch).take j ++ [tk] := by
            rw [List.take_add_one, htk]; rfl
          have Wl := Wh.len
          have WAL := Wh.AL
          have hFl := fi10.len G.gr
          have hFl2 : F3.length = (keysB F3).length := by rw [keysB, List.length_map]
          refine b_set 6 (v_cl Bh hr (hT.ext e10) (a_d (v_n 4 rfl hv10) (a_d (v_n 5 rfl htv) a_nil)) ⟨A', ch, tk.1, tk.2, rfl, hlt.1, by omega, rfl⟩) fun vt H11 e11 r11 => ?_
          have r11 : TD K H11 vt (chd (thereM (A', ch) tk)) := r11
          refine b_if (q := !(getB F3 (thereM (A', ch) tk)).isSome) (t_notInD (val := SL.nd) hu20 (v_n 6 rfl r11) (v_r 1 rfl) (hd10.ext e11)) (fun hz H13 e13 => ?_) (fun hz H13 e13 => ?_)
          · have hnk : thereM (A', ch) tk ∉ keysB F3 := fun z => by
              rw [mem_keys.mp z] at hz
              cases hz
            have e1013 := e11.trans e13
            obtain ⟨lb, hlb⟩ := Option.isSome_iff_exists.mp (mem_keys.mp (hBF10 _ hhB))
            refine b_putM hu20 (val := SL.nd) (v := lb + 1) (v_addn (v_getM (val := SL.nd) (v := lb) hu20 (v_r 1 rfl) (v_n 4 rfl (hv10.mono e1013.tk)) (hd10.ext e1013) hlb) (v_num (n := 1))) (v_r 1 rfl) (v_n 6 rfl (r11.mono e13.tk)) (hd10.ext e1013) (by rw [sizeLine_eq]; omega) fun H14 ob e14 hd14 t14 hob => ?_
            have e1014 := e1013.trans e14
            obtain ⟨fd0, hfd⟩ := (hd10.ext e1014).some
            have nbd : pb ≠ d := ne_of (e1014.lst hb10) hfd (by intro z; cases z)
            have nnd : pn ≠ d := ne_of (e1014.lst hn10) hfd (by intro z; cases z)
            have nmd : pm ≠ d := ne_of (e1014.lst hm10) hfd (by intro z; cases z)
            have tk14 : Tk H10 (upd H14 d ob) := e1014.tk.trans t14
            have hml14 : (upd H14 d ob) pm = some (.lst ms) := by
              rw [upd_ne nmd]
              exact e1014.lst hm10
            have npn : pm ≠ pn := fun z => by
              have := ne_of_none hm7 hn0
              exact this z
            have hmlen : ms.length = M.length := by
              rw [hms10.length, List.length_map]
            refine b_app 3 rfl hml14 (v_n 6 rfl (r11.mono ((e13.trans e14).tk.trans t14))) (by rw [hmlen, sizeLine_eq]; omega) fun v2 H15 e15 rv => b_nil (b_nil ?_)
            have hml15 := e15.lst hml14
            have t15 : Tk H15 (upd H15 pm (.lst (ms ++ [v2]))) := Tk.mutL hml15
            have tk15 : Tk H10 (upd H15 pm (.lst (ms ++ [v2]))) := (tk14.trans e15.tk).trans t15
            refine ⟨_, M ++ [thereM (A', ch) tk], ms ++ [v2], _, _, rfl, (((e10.trans e1014).mut hd0).trans e15).mut hHm, ?_, hx10.mono tk15, hv10.mono tk15, ?_, hy10.mono tk15, (hd14.ext e15).keep t15 (upd_ne nmd.symm), upd_same, ?_, ?_, fun x hx => ?_, fun x hx => ?_, ?_, fun t ht => ?_⟩
            · rw [upd_ne npb.symm]
              refine e15.lst ?_
              rw [upd_ne nbd]
              exact e1014.lst hb10
            · rw [upd_ne npn.symm]
              refine e15.lst ?_
              rw [upd_ne nnd]
              exact e1014.lst hn10
            · rw [List.map_append]
              exact (hms10.mono tk15).append (.cons (TD.mono rv t15) .nil)
            · rw [keys_put, if_neg (fun z => hnk (mem_keys.mpr z))]
              refine fi10.add (m := (A', ch)) (e := (thereM (A', ch) tk, stepN tk)) (hBF10 _ hhB) heo hnk (fun z hz => hz.imp_right fun h => List.mem_append_left _ h) (.inr (by simp))
            · rw [keys_put, if_neg (fun z => hnk (mem_keys.mpr z))]
              exact List.mem_append_left _ (hBF10 x hx)
            · rw [keys_put, if_neg (fun z => hnk (mem_keys.mpr z))]
              rcases List.mem_append.mp hx with hx | hx
              · exact List.mem_append_left _ (hMF10 x hx)
              · exact List.mem_append_right _ hx
            · rw [keys_put, if_neg (fun z => hnk (mem_keys.mpr z)), List.length_append, List.length_append]
              simp only [List.length_singleton]
              omega
            · rw [keys_put, if_neg (fun z => hnk (mem_keys.mpr z))]
              rw [htake] at ht
              rcases List.mem_append.mp ht with ht | ht
              · exact List.mem_append_left _ (hdone t ht)
              · rw [show t = tk by simpa using ht]
                simp
          · have hk : thereM (A', ch) tk ∈ keysB F3 := mem_keys.mpr (by simpa using hz)
            have e1013 := e11.trans e13
            refine b_nil (b_nil ⟨F3, M, ms, _, _, rfl, e10.trans e1013, e1013.lst hb10, hx10.mono e1013.tk, hv10.mono e1013.tk, e1013.lst hn10, hy10.mono e1013.tk, hd10.ext e1013, e1013.lst hm10, hms10.mono e1013.tk, fi10, hBF10, hMF10, hl10, fun t ht => ?_⟩)
            rw [htake] at ht
            rcases List.mem_append.mp ht with ht | ht
            · exact hdone t ht
            · rw [show t = tk by simpa using ht]
              exact hk
        · rintro σ' H10 ⟨F3, M, ms, o5, o6, rfl, e10, hb10, hx10, hv10, hn10, hy10, hd10, hm10, hms10, fi10, hBF10, hMF10, hl10, hdone⟩
          have hl : ((takF A' L k ch).map tkd).length = (takF A' L k ch).length := List.length_map ..
          rw [hl, List.take_length] at hdone
          refine b_nil ⟨F3, M, ms, _, _, _, rfl, e10, hb10, hx10, hd10, hm10, hms10, fi10.less (fun z hz h1 h2 e he => ?_), hBF10, hMF10, hl10⟩
          rcases h1 with h1 | h1
          · rw [hdrop] at h1
            rcases List.mem_cons.mp h1 with h1 | h1
            · subst h1
              obtain ⟨t, ht, rfl⟩ := List.mem_map.mp he
              exact hdone t ht
            · exact absurd (.inl h1) h2
          · exact absurd (.inr h1) h2
      · rintro σ' H7 ⟨F2, M, ms, o4, o5, o6, rfl, e7, hb7, hx7, hd7, hm7, hms7, fi7, hBF7, hMF7, hl7⟩
        have hl : (Bl.map chd).length = Bl.length := List.length_map ..
        rw [hl] at fi7
        refine b_set 2 (R := isr (.ref pm)) (v_r 3 rfl) fun v H8 e8 rv => b_nil ?_
        rw [show v = .ref pm from rv]
        have hlen2 := fi7.len G.gr
        refine ⟨2 * (U.length - (keysB F2).length) + (if M = [] then 0 else 1), ?_, F2, M, pm, ms, _, _, _, _, rfl, e7.trans e8, hd7.ext e8, e8.lst hm7, hms7.mono e8.tk, fi7.less (fun z _ h1 h2 => ?_), hMF7, rfl⟩
        · rw [if_neg hBne]
          by_cases hM : M = []
          · subst hM
            rw [if_pos rfl]
            simp at hl7
            omega
          · have : 0 < M.length := List.length_pos_iff.mpr hM
            rw [if_neg hM]
            omega
        · rcases h1 with h1 | h1
          · simp at h1
          · exact absurd h1 h2
    · have hB : Bl = [] := by simpa using hz
      subst hB
      refine b_ret (R := isr (.ref d)) (v_r 1 rfl) fun v H5 e5 rv => ?_
      rw [show v = .ref d from rv]
      exact hq d H5 F ((e3.trans e4).trans e5) hd0 (hd3.ext (e4.trans e5)) (fi.less fun z _ h1 _ => by cases h1)
end
end SL

set_option maxHeartbeats 4000000
/-! the law draws: taken, pick -/
namespace SL
open PySem PySem.Spec PyProof.Rows L2 GxR GX StX

/-- all stays but p; a table may grow -/
def ExtR (p : Addr) (H H' : Hp) : Prop := (∀ a o, H a = some o → a ≠ p → (∀ ps, o ≠ .tbl ps) → H' a = some o) ∧ ∀ a ps, H a = some (.tbl ps) → ∃ qs, H' a = some (.tbl qs) ∧ (TriplesOk ps.toList → TriplesOk qs.toList)
theorem Ext.r {H H' : Hp} (p : Addr) (e : Ext H H') : ExtR p H H' := ⟨fun a o h _ n => e.1 a o h n, e.2⟩
theorem ExtR.trans {p : Addr} {H H1 H2 : Hp} (a : ExtR p H H1) (b : ExtR p H1 H2) : ExtR p H H2 := ⟨fun x o h n t => b.1 x o (a.1 x o h n t) n t, fun x ps h => by
  obtain ⟨qs, e, t⟩ := a.2 x ps h
  obtain ⟨rs, e2, t2⟩ := b.2 x qs e
  exact ⟨rs, e2, fun z => t2 (t z)⟩⟩
theorem ExtR.at {p : Addr} {H : Hp} {xs : List V} {o : HO} (h : H p = some (.lst xs)) : ExtR p H (upd H p o) :=
  ⟨fun a u e n _ => by rw [upd_ne n]; exact e, fun a ps e => ⟨ps, by rw [upd_ne (ne_of e h (by intro z; cases z))]; exact e, id⟩⟩
theorem ExtR.mut {p q : Addr} {H H' : Hp} {o : HO} (e : ExtR p H H') (h : H q = none) : ExtR p H (upd H' q o) :=
  ⟨fun a u ha n t => by rw [upd_ne (ne_of_none ha h)]; exact e.1 a u ha n t, fun a ps ea => by
    rw [upd_ne (ne_of_none ea h)]
    exact e.2 a ps ea⟩
theorem ExtR.lst {p q : Addr} {H H' : Hp} {xs : List V} (e : ExtR p H H') (h : H q = some (.lst xs)) (n : q ≠ p) : H' q = some (.lst xs) := e.1 _ _ h n fun _ z => by cases z
theorem ExtR.tk {p : Addr} {H H' : Hp} {xs : List V} (e : ExtR p H H') (h : H p = some (.lst xs)) : Tk H H' :=
  ⟨fun a ys ha => e.1 _ _ ha (ne_of ha h (by intro z; cases z)) (fun _ z => by cases z), fun a o u ha => e.1 _ _ ha (ne_of ha h (by intro z; cases z)) (fun _ z => by cases z)⟩
theorem ExtR.tabs {p : Addr} {H H' : Hp} {T : List Addr} (e : ExtR p H H') (h : Tabs T H) : Tabs T H' := fun P hP => by
  obtain ⟨ps, ep, t⟩ := h P hP
  obtain ⟨qs, eq, tq⟩ := e.2 P ps ep
  exact ⟨qs, eq, tq t⟩
theorem ExtR.free {p q : Addr} {H H' : Hp} {xs : List V} (e : ExtR p H H') (hp : H p = some (.lst xs)) (h : H' q = none) (hq : H' p ≠ none) : H q = none := by
  cases h1 : H q with
  | none => rfl
  | some o =>
    by_cases hz : q = p
    · subst hz
      exact absurd h hq
    · by_cases ho : ∃ ps, o = .tbl ps
      · obtain ⟨ps, rfl⟩ := ho
        obtain ⟨qs, e1, _⟩ := e.2 q ps h1
        rw [h] at e1
        cases e1
      · rw [e.1 q o h1 hz fun ps z => ho ⟨ps, z⟩] at h
        cases h
/-- the row of draws: script, place, state, carry -/
def RowAt (K : PySem.W.Frag) (H : Hp) (p sc : Addr) : Prop := ∃ (ns : List Int) (i : Nat) (s c : Int), H p = some (.lst [.ref sc, nv i, .int s, .int c]) ∧ SqL K H sc (ns.map V.int)
theorem row_sq {K : PySem.W.Frag} {H : Hp} {p sc : Addr} {ns : List Int} {i : Nat} {s c : Int} {o : HO} (h : H p = some (.lst [.ref sc, nv i, .int s, .int c])) (q : SqL K H sc (ns.map V.int)) : SqL K (upd H p o) sc (ns.map V.int) := by
  rcases q with (q | ⟨u, q⟩) | q
  · refine .inl (.inl ?_)
    rw [upd_ne]
    · exact q
    · refine ne_of q h fun z => ?_
      injection z with z
      cases ns with
      | nil => cases z
      | cons n ns =>
        rw [List.map_cons] at z
        injection z with z _
        cases z
  · refine .inl (.inr ⟨u, ?_⟩)
    rw [upd_ne (ne_of q h (by intro z; cases z))]
    exact q
  · exact .inr q
theorem RowAt.ext {K : PySem.W.Frag} {H H' : Hp} {p sc : Addr} (r : RowAt K H p sc) (e : Ext H H') : RowAt K H' p sc := by
  obtain ⟨ns, i, s, c, h1, h2⟩ := r
  exact ⟨ns, i, s, c, e.lst h1, e.sql h2⟩
theorem RowAt.upd {K : PySem.W.Frag} {H H' : Hp} {p sc q : Addr} {o : HO} (r : RowAt K H p sc) (hq : H q = none) (r' : RowAt K H' p sc) : RowAt K (upd H' q o) p sc := by
  obtain ⟨ns, i, s, c, h1, h2⟩ := r
  obtain ⟨ns', i', s', c', h1', h2'⟩ := r'
  have hp : (L2.upd H' q o) p = some (.lst [.ref sc, nv i', .int s', .int c']) := by rw [upd_ne (ne_of_none h1 hq)]; exact h1'
  have key : sc ≠ q → RowAt K (L2.upd H' q o) p sc := fun n => by
    refine ⟨ns', i', s', c', hp, ?_⟩
    rcases h2' with (z | ⟨u, z⟩) | z
    · exact .inl (.inl (by rw [upd_ne n]; exact z))
    · exact .inl (.inr ⟨u, by rw [upd_ne n]; exact z⟩)
    · exact .inr z
  rcases h2 with (z | ⟨u, z⟩) | z
  · exact key (ne_of_none z hq)
  · exact key (ne_of_none z hq)
  · exact ⟨ns, i', s', c', hp, .inr z⟩
theorem RowAt.lst {K : PySem.W.Frag} {H : Hp} {p sc : Addr} (r : RowAt K H p sc) : ∃ xs, H p = some (.lst xs) := by
  obtain ⟨ns, i, s, c, h1, h2⟩ := r
  exact ⟨_, h1⟩
theorem tds_intZ {K : PySem.W.Frag} {H : Hp} : ∀ l : List Int, TDs K H (l.map V.int) (l.map Dat.int)
  | [] => .nil
  | n :: l => .cons (.int _) (tds_intZ l)
theorem ixN_nat' {n m : Nat} (h : n < m) : ixN m (n : Int) = some n := by
  unfold ixN
  simp [h]
section
variable {X : Cx} {σ : L2.St} {H : Hp} {a b e : Expr} {pos p1 p2 p3 : Pos} {p : Addr} {xs : List V} {n : Nat} {v : V} {D : Ends} {rest : List Stmt} {z : Int} {d : Dat} {x : Str}
theorem v_ixV (ho : EV X σ H a (isr (.ref p))) (hl : SqL X.K H p xs) (hi : EV X σ H b (isd X (nd n))) (hv : xs[n]? = some v) (hp : PlainIx b := by intro _ _; rfl) : EV X σ H (.Subscript a b pos) (isr v) :=
  EV.by (pe_ix ix_list pwe pwe hp) (ev_two ho hi fun H0 H1 H2 x y e0 e1 e2 r1 r2 Q k => ⟨p, xs, _, v, r1, int_inv r2, ((e0.trans e1).trans e2).sql hl, atI_nat hv, k v H2 (Ext.refl _) rfl⟩)
theorem EV.td (h : EV X σ H e (isr v)) (q : ∀ H, TD X.K H v d) : EV X σ H e (isd X d) := h.imp fun _ u H1 _ _ r => by
  rw [show u = v from r]
  exact q H1
/-- row[n] = e -/
theorem b_putL (i : Nat) {k : Nat} (he : EV X σ H e (isd X (.int z))) (hσ : σ[i]? = some (some (.ref p))) (hl : H p = some (.lst xs)) (hn : n < xs.length) (kk : ∀ H1, Ext H H1 → WB X rest D σ (upd H1 p (.lst (xs.set n (.int z)))))
    (hN : X.N[i]? = some x := by rfl) (hv : Vis X.env.scope x := by first | exact Or.inl rfl | exact Or.inr (Or.inl rfl) | exact Or.inr (Or.inr rfl)) (hd : (x == ("__debug__" : Str)) = false := by decide) (hcd : (x == ("__classdict__" : Str)) = false := by decide)
    (ha : ∀ v, assign (.Subscript (.Name x p1) (.Constant (.int (n : Int)) k p2) p3) X.env v = (do
      let ov ← holding [v] (eval (.Name x p1) X.env)
      let iv ← holding [v, ov] (eval (.Constant (.int (n : Int)) k p2) X.env)
      standAt p3
      holding [v, ov, iv] (setItem ov iv v)
      release [v, ov, iv] []) := by intro _; rfl)
    (hs : swapsWithSole [.Subscript (.Name x p1) (.Constant (.int (n : Int)) k p2) p3] e pos.line X.env = pure false := by rfl) (hw : swappedStores [.Subscript (.Name x p1) (.Constant (.int (n : Int)) k p2) p3] e X.env = pure none := by rfl)
    (h1 : (assignEach [.Subscript (.Name x p1) (.Constant (.int (n : Int)) k p2) p3] X.env).map (·.2) = [assign (.Subscript (.Name x p1) (.Constant (.int (n : Int)) k p2) p3) X.env] := by rfl) :
    WB X (.Assign [.Subscript (.Name x p1) (.Constant (.int (n : Int)) k p2) p3] e pos :: rest) D σ H :=
  b_cons (WS.of (ps_asg pwe (pg_sub (pe_var hN hv hd hcd) pe_int set_list ha) hs hw h1) (he H (Ext.refl _) _ fun u H1 e1 r1 => ⟨.ref p, hσ, by
    rw [int_inv r1]
    exact ⟨p, xs, (n : Int), n, rfl, rfl, e1.lst hl, ixN_nat' hn, kk H1 e1⟩⟩))
end
section
variable {P : Program} {w : World} {K : PySem.W.Frag} {mg : Str → Option Value} {base : Heap}
def spTaken (K : PySem.W.Frag) : Sp := fun vs H Q _ => ∃ (p sc : Addr) (m : Nat), vs = [.ref p, nv m] ∧ 0 < m ∧ m < 1073741824 ∧ RowAt K H p sc ∧ ∀ (r : Nat) (H' : Hp), r < m → ExtR p H H' → RowAt K H' p sc → Q (nv r) H'
theorem mod_nat {c : Int} {m : Nat} (h : 0 < m) : ∃ r : Nat, r < m ∧ c % (m : Int) = (r : Int) := by
  have h1 := Int.emod_nonneg c (show (m : Int) ≠ 0 by omega)
  have h2 := Int.emod_lt_of_pos c (show (0 : Int) < m by omega)
  exact ⟨(c % (m : Int)).toNat, by omega, by omega⟩
theorem ok_law_taken {f : Addr} {fd : FuncData} (F : Fun K "_law_taken" "_law_taken" t_law_taken f fd) (B : Bt mg) : FnOk P w K mg base CX0 1 f fd p_law_taken (spTaken K) := by
  refine okW F sc_law_taken (fun vs H Q E h => ?_) (fun cdv Ar outer s H vs Q E hcd hr h => ?_)
  · obtain ⟨p, sc, m, rfl, _⟩ := h
    rfl
  · obtain ⟨p, sc, m, rfl, hm, hm2, ⟨ns, i, st, c, hrow, hsc⟩, hq⟩ := h
    have nd := sc_law_taken.nd
    have cell : ∀ {H' : Hp} {σ' : L2.St} {q1 q2 q3 : Pos} {kk n : Nat} {z : Int} {row : List V}, σ'[0]? = some (some (.ref p)) → H' p = some (.lst row) → row[n]? = some (.int z) →
        EV (cxOf CX0 P w K mg base n_law_taken "_law_taken" (defScope t_law_taken) f cdv Ar outer s H E).nox σ' H' (.Subscript (.Name "_law_row" q1) (.Constant (.int (n : Int)) kk q2) q3) (isd (cxOf CX0 P w K mg base n_law_taken "_law_taken" (defScope t_law_taken) f cdv Ar outer s H E).nox (.int z)) := fun h1 h2 h3 =>
      EV.td (v_ixV (v_r 0 h1) (SqL.of h2) v_int h3) fun _ => .int _
    refine b_if (t_gt (cell (n := 3) rfl hrow rfl) (v_int (i := 0))) (fun hz H1 e1 => ?_) (fun hz H1 e1 => b_nil ?_)
    · obtain ⟨r, hr1, hr2⟩ := mod_nat (c := c) hm
      refine b_set 3 (v_mod (v_intI B.int (cell (n := 3) rfl (e1.lst hrow) rfl)) (v_n 1 rfl (.int _)) (by omega)) fun v H2 e2 r2 => ?_
      have r2 := int_inv r2
      rw [hr2] at r2
      subst r2
      have h2 := (e1.trans e2).lst hrow
      refine b_putL 0 (n := 3) (v_fdiv (cell (n := 3) rfl h2 rfl) (v_n 1 rfl (.int _)) ⟨by omega, by omega⟩) rfl h2 (by simp) fun H3 e3 => ?_
      have h3 := e3.lst h2
      refine b_ret (R := isr (nv r)) (v_r 3 rfl) fun v H4 e4 rv => ?_
      rw [show v = nv r from rv]
      refine hq r H4 hr1 (((((e1.trans e2).trans e3).r p).trans (ExtR.at h3)).trans (e4.r p)) (RowAt.ext ⟨ns, i, st, _, upd_same, row_sq h3 (((e1.trans e2).trans e3).sql hsc)⟩ e4)
    · have hrow1 := e1.lst hrow
      refine b_putL 0 (n := 1) (z := (i : Int) + 1) (v_add (cell (n := 1) (z := (i : Int)) rfl hrow1 rfl) (v_int (i := 1))) rfl hrow1 (by simp) fun H2 e2 => ?_
      have h2 := e2.lst hrow1
      have hsc2 := row_sq (o := .lst [.ref sc, .int ((i : Int) + 1), .int st, .int c]) h2 ((e1.trans e2).sql hsc)
      have x2 : ExtR p H (upd H2 p (.lst [.ref sc, .int ((i : Int) + 1), .int st, .int c])) := ((e1.trans e2).r p).trans (ExtR.at h2)
      show WB _ _ _ _ (upd H2 p (.lst [.ref sc, .int ((i : Int) + 1), .int st, .int c]))
      have hr2 : (upd H2 p (.lst [.ref sc, .int ((i : Int) + 1), .int st, .int c])) p = some (.lst [.ref sc, .int ((i : Int) + 1), .int st, .int c]) := upd_same
      generalize upd H2 p (.lst [.ref sc, .int ((i : Int) + 1), .int st, .int c]) = G at hsc2 x2 hr2
      have row0 : ∀ {H' : Hp} {σ' : L2.St} {q1 q2 q3 : Pos} {kk : Nat} {row : List V}, σ'[0]? = some (some (.ref p)) → H' p = some (.lst row) → row[0]? = some (.ref sc) → SqL K H' sc (ns.map V.int) →
          EV (cxOf CX0 P w K mg base n_law_taken "_law_taken" (defScope t_law_taken) f cdv Ar outer s H E).nox σ' H' (.Subscript (.Name "_law_row" q1) (.Constant (.int (0 : Int)) kk q2) q3) (isl (cxOf CX0 P w K mg base n_law_taken "_law_taken" (defScope t_law_taken) f cdv Ar outer s H E).nox (ns.map Dat.int)) := fun h1 h2 h3 h4 =>
        EV.imp (v_ixV (n := 0) (v_r 0 h1) (SqL.of h2) v_int h3) fun H0 v H1 eH e r => ⟨sc, ns.map V.int, r, (eH.trans e).sql h4, tds_intZ ns⟩
      refine b_if (t_gt (cell (n := 1) (z := (i : Int) + 1) rfl hr2 rfl) (v_lenL B.len (row0 rfl hr2 rfl hsc2))) (fun hz H3 e3 => ?_) (fun hz H3 e3 => b_nil ?_)
      · have h3 := e3.lst hr2
        refine b_putL 0 (n := 2) (v_mod (v_intI B.int (v_add (v_mul (cell (n := 2) rfl h3 rfl) (v_int (i := 48271)) (.inr ⟨by decide, by decide⟩)) (v_int (i := 11)))) (v_int (i := 2147483647)) (by decide)) rfl h3 (by simp) fun H4 e4 => ?_
        have h4 := e4.lst h3
        have hsc4 := (e3.trans e4).sql hsc2
        generalize (st * 48271 + 11) % 2147483647 = st'
        have hr5 : (upd H4 p (.lst [.ref sc, .int ((i : Int) + 1), .int st', .int c])) p = some (.lst [.ref sc, .int ((i : Int) + 1), .int st', .int c]) := upd_same
        have hsc5 := row_sq (o := .lst [.ref sc, .int ((i : Int) + 1), .int st', .int c]) (i := i + 1) h4 hsc4
        obtain ⟨r, hr1, hr22⟩ := mod_nat (c := st' / 7) hm
        refine b_ret ((v_mod (v_intI B.int (v_fdiv (cell (n := 2) rfl hr5 rfl) (v_int (i := 7)) ⟨by decide, by decide⟩)) (v_n 1 rfl (.int _)) (by omega)).toI hr22) fun v H5 e5 rv => ?_
        rw [int_inv rv]
        exact hq r H5 hr1 (((x2.trans ((e3.trans e4).r p)).trans (ExtR.at h4)).trans (e5.r p)) (RowAt.ext ⟨ns, i + 1, st', c, upd_same, hsc5⟩ e5)
      · have h3 := e3.lst hr2
        have hsc3 := e3.sql hsc2
        have hil : i < ns.length := by
          rw [List.length_map] at hz
          have : ¬ ((ns.length : Int) < (i : Int) + 1) := by simpa using hz
          omega
        have hget : (ns.map Dat.int)[i]? = some (Dat.int ns[i]) := by
          rw [List.getElem?_map, List.getElem?_eq_getElem hil]
          rfl
        refine b_set 2 (v_ixL (n := i) (row0 rfl h3 rfl hsc3) ((v_sub (cell (n := 1) (z := (i : Int) + 1) rfl h3 rfl) (v_int (i := 1))).toI (by omega)) hget) fun v H4 e4 r4 => ?_
        have r4 := int_inv r4
        subst r4
        generalize ns[i] = z
        have h4 := e4.lst h3
        have hsc4 := e4.sql hsc3
        refine b_putL 0 (n := 2) (v_mod (v_intI B.int (v_add (v_add (v_mul (cell (n := 2) rfl h4 rfl) (v_int (i := 48271)) (.inr ⟨by decide, by decide⟩)) (v_n 2 rfl (.int _))) (v_int (i := 11)))) (v_int (i := 2147483647)) (by decide)) rfl h4 (by simp) fun H5 e5 => ?_
        have h5 := e5.lst h4
        generalize (st * 48271 + z + 11) % 2147483647 = st'
        have hr5 : (upd H5 p (.lst [.ref sc, .int ((i : Int) + 1), .int st', .int c])) p = some (.lst [.ref sc, .int ((i : Int) + 1), .int st', .int c]) := upd_same
        have hsc5 := row_sq (o := .lst [.ref sc, .int ((i : Int) + 1), .int st', .int c]) (i := i + 1) h5 (e5.sql hsc4)
        have x5 := (x2.trans (((e3.trans e4).trans e5).r p)).trans (ExtR.at (o := .lst [.ref sc, .int ((i : Int) + 1), .int st', .int c]) h5)
        show WB _ _ _ _ (upd H5 p (.lst [.ref sc, .int ((i : Int) + 1), .int st', .int c]))
        generalize upd H5 p (.lst [.ref sc, .int ((i : Int) + 1), .int st', .int c]) = G5 at hr5 hsc5 x5
        obtain ⟨r, hr1, hr22⟩ := mod_nat (c := z) hm
        refine b_ifj (fun σ' H' => σ' = [some (.ref p), some (nv m), some (.int z), none] ∧ ∃ c', ExtR p H H' ∧ H' p = some (.lst [.ref sc, .int ((i : Int) + 1), .int st', .int c']) ∧ SqL K H' sc (ns.map V.int)) (t_ge (v_n 2 rfl (.int _)) (v_pow (v_int (i := 10)) (v_int (i := 18)) ⟨by decide, by decide, by decide⟩)) (fun hz2 H6 e6 => ?_) (fun hz2 H6 e6 => b_nil ⟨rfl, c, x5.trans (e6.r p), e6.lst hr5, e6.sql hsc5⟩) ?_
        · refine b_putL 0 (n := 3) (v_fdiv (v_n 2 rfl (.int _)) (v_n 1 rfl (.int _)) ⟨by omega, by omega⟩) rfl (e6.lst hr5) (by simp) fun H7 e7 => b_nil ?_
          have h7 := e7.lst (e6.lst hr5)
          exact ⟨rfl, _, (x5.trans ((e6.trans e7).r p)).trans (ExtR.at h7), upd_same, row_sq (i := i + 1) h7 ((e6.trans e7).sql hsc5)⟩
        · rintro σ' H6 ⟨rfl, c', x6, h6, hsc6⟩
          refine b_ret ((v_mod (v_intI B.int (v_n 2 rfl (.int _))) (v_n 1 rfl (.int _)) (by omega)).toI hr22) fun v H7 e7 rv => ?_
          rw [int_inv rv]
          exact hq r H7 hr1 (x6.trans (e7.r p)) (RowAt.ext ⟨ns, i + 1, st', c', h6, hsc6⟩ e7)

/-- a rule for draws -/
theorem we_taken {X : Cx} {σ : L2.St} {H : Hp} {a b : Expr} {pos q : Pos} {p sc : Addr} {m j : Nat} {Q : VK} (F : Clb X.prog X.w X.K X.mg X.base 1 "_law_taken" (spTaken X.K)) (hr : Room j X.A) (hrow : RowAt X.K H p sc) (ha : EV X σ H a (isr (.ref p))) (hb : EV X σ H b (isd X (nd m))) (hm : 0 < m) (hm2 : m < 1073741824)
    (k : ∀ (r : Nat) (H' : Hp), r < m → ExtR p H H' → RowAt X.K H' p sc → Q (nv r) H') (hk : 1 ≤ j := by decide) (hg : Gl X "_law_taken" := by rfl) (he : starEach [a, b] X.env = (false, eval a X.env) :: starEach [b] X.env := by rfl) (he2 : starEach [b] X.env = (false, eval b X.env) :: starEach [] X.env := by rfl)
    (hpl : (backTo pos (starEach [b] X.env)).any (·.1) = false := by rfl) : WE X (.Call (.Name "_law_taken" q) [a, b] [] pos) σ H Q :=
  WE.of (pe_cl F hr (pa_cons pwe (pa_cons pwe pa_nil he2) he) hk hg (by decide) he hpl) (ha H (Ext.refl _) _ fun u H1 e1 r1 => hb H1 e1 _ fun v H2 e2 r2 => ⟨p, sc, m, by rw [show u = .ref p from r1, int_inv r2]; rfl, hm, hm2, hrow.ext (e1.trans e2), fun r H' h1 h2 h3 => k r H' h1 (((e1.trans e2).r p).trans h2) h3⟩)

def spPick (K : PySem.W.Frag) : Sp := fun vs H Q _ => ∃ (p sc q : Addr) (xs : List V) (ds : List Dat), vs = [.ref p, .ref q] ∧ H q = some (.lst xs) ∧ q ≠ p ∧ TDs K H xs ds ∧ 0 < ds.length ∧ ds.length < 1073741824 ∧ RowAt K H p sc ∧ ∀ (i : Nat) (d : Dat) (v : V) (H' : Hp), ds[i]? = some d → ExtR p H H' → RowAt K H' p sc → TD K H' v d → Q v H'
theorem ok_law_pick {f : Addr} {fd : FuncData} (F : Fun K "_law_pick" "_law_pick" t_law_pick f fd) (B : Bt mg) (Tk' : Clb P w K mg base 1 "_law_taken" (spTaken K)) : FnOk P w K mg base CX0 2 f fd p_law_pick (spPick K) := by
  refine okW F sc_law_pick (fun vs H Q E h => ?_) (fun cdv Ar outer s H vs Q E hcd hr h => ?_)
  · obtain ⟨p, sc, q, xs, ds, rfl, _⟩ := h
    rfl
  · obtain ⟨p, sc, q, xs, ds, rfl, hq0, hqp, hds, hl0, hl1, hrow, hk⟩ := h
    have nd := sc_law_pick.nd
    obtain ⟨ys, hp⟩ := hrow.lst
    refine b_cons (WS.of (ps_ret (pe_ix ix_list pwe pwe (by intro _ _; rfl))) ?_)
    refine (v_r 1 rfl : EV _ _ H _ (isr (.ref q))) H (Ext.refl _) _ fun u H1 e1 ru => ?_
    refine we_taken Tk' hr (hrow.ext e1) (v_r 0 rfl) (v_lenL B.len (v_l 1 rfl (SqL.of (e1.lst hq0)) (hds.mono e1.tk))) hl0 hl1 fun r H2 hr1 x2 hrow2 => ?_
    have x12 := (e1.r p).trans x2
    have hq2 := x12.lst hq0 hqp
    have hds2 := hds.mono (x12.tk hp)
    obtain ⟨v, hv, hvd⟩ := hds2.get (List.getElem?_eq_getElem hr1)
    exact ⟨q, xs, r, v, ru, rfl, SqL.of hq2, atI_nat hv, hk r _ v H2 (List.getElem?_eq_getElem hr1) x12 hrow2 hvd⟩
end
end SL

/-! plain: roots of a land; a map that is built from cuts and an order of lands -/
namespace SL
/-- c is where the land x begins (towards the hub) -/
def Rt (L : Nat) (cs : List Nat) (x c : Nat) : Prop := c < cs.length ∧ cs.getD c 0 = x ∧ (c = 0 ∨ cs.getD (innF L c) 0 ≠ x)
theorem root_iff {L : Nat} {cs : List Nat} {x c : Nat} : (c ∈ heldF cs x ∧ rootS L (heldF cs x) c = true) ↔ Rt L cs x c := by
  rw [held_mem]
  unfold Rt rootS
  constructor
  · rintro ⟨⟨h1, h2⟩, h3⟩
    refine ⟨h1, h2, ?_⟩
    rw [Bool.or_eq_true, beq_iff_eq] at h3
    rcases h3 with h3 | h3
    · exact .inl h3
    · by_cases h0 : c = 0
      · exact .inl h0
      · right
        intro e
        have hlt := inn_lt (L := L) h0
        have : innF L c ∈ heldF cs x := held_mem.mpr ⟨by omega, e⟩
        simp [this] at h3
  · rintro ⟨h1, h2, h3⟩
    refine ⟨⟨h1, h2⟩, ?_⟩
    rw [Bool.or_eq_true, beq_iff_eq]
    rcases h3 with h3 | h3
    · exact .inl h3
    · right
      have : innF L c ∉ heldF cs x := fun z => h3 (held_mem.mp z).2
      simp [this]
theorem hang_rt {L : Nat} {cs : List Nat} {x : Nat} : hangF L (heldF cs x) = true ↔ ∃ r, Rt L cs x r ∧ ∀ c, Rt L cs x c → c = r := by
  rw [hang_iff (held_nodup cs x)]
  constructor
  · rintro ⟨r, h1, h2⟩
    exact ⟨r, root_iff.mp h1, fun c hc => let ⟨a, b⟩ := root_iff.mpr hc; h2 c a b⟩
  · rintro ⟨r, h1, h2⟩
    exact ⟨r, root_iff.mpr h1, fun c a b => h2 c (root_iff.mp ⟨a, b⟩)⟩
theorem getD_snoc {cs : List Nat} {y c : Nat} (h : c < cs.length) : (cs ++ [y]).getD c 0 = cs.getD c 0 := by
  rw [List.getD_eq_getElem?_getD, List.getD_eq_getElem?_getD, List.getElem?_append_left h]
theorem getD_last {cs : List Nat} {y : Nat} : (cs ++ [y]).getD cs.length 0 = y := by
  rw [List.getD_eq_getElem?_getD, List.getElem?_append_right (Nat.le_refl _)]
  simp
theorem rt_snoc {L : Nat} {cs : List Nat} {x y c : Nat} (hne : cs ≠ []) : Rt L (cs ++ [y]) x c ↔ Rt L cs x c ∨ (c = cs.length ∧ y = x ∧ cs.getD (innF L c) 0 ≠ x) := by
  have hpos : 0 < cs.length := List.length_pos_iff.mpr hne
  unfold Rt
  rw [List.length_append, List.length_singleton]
  by_cases h : c < cs.length
  · have h0 : c ≠ cs.length := by omega
    rw [getD_snoc h]
    have hi : (cs ++ [y]).getD (innF L c) 0 = cs.getD (innF L c) 0 ∨ c = 0 := by
      by_cases hc : c = 0
      · exact .inr hc
      · have := inn_lt (L := L) hc
        exact .inl (getD_snoc (by omega))
    constructor
    · rintro ⟨_, h2, h3⟩
      refine .inl ⟨h, h2, ?_⟩
      rcases h3 with h3 | h3
      · exact .inl h3
      · rcases hi with hi | hi
        · rw [hi] at h3; exact .inr h3
        · exact .inl hi
    · rintro (⟨_, h2, h3⟩ | ⟨h1, _⟩)
      · refine ⟨by omega, h2, ?_⟩
        rcases h3 with h3 | h3
        · exact .inl h3
        · rcases hi with hi | hi
          · rw [hi]; exact .inr h3
          · exact .inl hi
      · exact absurd h1 h0
  · constructor
    · rintro ⟨h1, h2, h3⟩
      have e : c = cs.length := by omega
      subst e
      rw [getD_last] at h2
      refine .inr ⟨rfl, h2, ?_⟩
      have hlt := inn_lt (L := L) (c := cs.length) (by omega)
      rcases h3 with h3 | h3
      · omega
      · rw [getD_snoc hlt] at h3; exact h3
    · rintro (⟨h1, _⟩ | ⟨h1, h2, h3⟩)
      · exact absurd h1 h
      · subst h1
        have hlt := inn_lt (L := L) (c := cs.length) (by omega)
        refine ⟨by omega, ?_, .inr ?_⟩
        · rw [getD_last]; exact h2
        · rw [getD_snoc hlt]; exact h3

/-! ### the law's map -/
structure Bld where
  cs : List Nat
  u : Nat
  l : Nat
def bld (L : Nat) (O : List Nat) (C : List (Nat × Nat)) : Nat → Bld
  | 0 => ⟨[O.getD 0 0], 1, O.getD 0 0⟩
  | t + 1 =>
    let b := bld L O C t
    let l0 := if t % L = 0 then O.getD 0 0 else b.l
    if (t / L, t % L) ∈ C then ⟨b.cs ++ [O.getD b.u 0], b.u + 1, O.getD b.u 0⟩ else ⟨b.cs ++ [l0], b.u, l0⟩
def cutsB (L t : Nat) (C : List (Nat × Nat)) : Nat := (C.filter fun p => decide (p.1 * L + p.2 < t)).length
theorem cuts_step {L t : Nat} {C : List (Nat × Nat)} (hL : 0 < L) (nd : C.Nodup) (hC : ∀ p, p ∈ C → p.2 < L) : cutsB L (t + 1) C = cutsB L t C + (if (t / L, t % L) ∈ C then 1 else 0) := by
  have key : ∀ p : Nat × Nat, p.2 < L → (p.1 * L + p.2 = t ↔ p = (t / L, t % L)) := fun p hp => by
    constructor
    · intro e
      rw [← e]
      refine Prod.ext ?_ ?_
      · show p.1 = (p.1 * L + p.2) / L
        rw [Nat.mul_comm, Nat.mul_add_div hL, Nat.div_eq_of_lt hp, Nat.add_zero]
      · show p.2 = (p.1 * L + p.2) % L
        rw [Nat.mul_comm, Nat.mul_add_mod, Nat.mod_eq_of_lt hp]
    · intro e
      rw [e]
      show t / L * L + t % L = t
      rw [Nat.mul_comm]
      exact Nat.div_add_mod t L
  unfold cutsB
  induction C with
  | nil => simp
  | cons p C ih =>
    have ih := ih (List.nodup_cons.mp nd).2 fun q hq => hC q (List.mem_cons_of_mem _ hq)
    have hp := key p (hC p List.mem_cons_self)
    have hpn := (List.nodup_cons.mp nd).1
    by_cases e : p = (t / L, t % L)
    · have h1 := hp.mpr e
      have h2 : (t / L, t % L) ∉ C := by rw [← e]; exact hpn
      rw [if_neg h2] at ih
      rw [List.filter_cons_of_pos (by simp; omega), List.filter_cons_of_neg (by simp; omega), if_pos (by rw [e]; simp)]
      simp only [List.length_cons]
      omega
    · have h1 : p.1 * L + p.2 ≠ t := fun z => e (hp.mp z)
      have h2 : ((t / L, t % L) ∈ p :: C) ↔ (t / L, t % L) ∈ C := by
        rw [List.mem_cons]
        exact ⟨fun z => z.resolve_left (fun z => e z.symm), .inr⟩
      simp only [h2]
      by_cases h3 : p.1 * L + p.2 < t
      · rw [List.filter_cons_of_pos (by simp; omega), List.filter_cons_of_pos (by simpa using h3)]
        simp only [List.length_cons]
        omega
      · rw [List.filter_cons_of_neg (by simp; omega), List.filter_cons_of_neg (by simpa using h3)]
        exact ih
theorem cuts_lt {L t : Nat} {C : List (Nat × Nat)} {p : Nat × Nat} (hp : p ∈ C) (h : ¬ p.1 * L + p.2 < t) : cutsB L t C < C.length := by
  unfold cutsB
  have h1 := List.length_filter_le (fun p => decide (p.1 * L + p.2 < t)) C
  rcases Nat.lt_or_eq_of_le h1 with h1 | h1
  · exact h1
  · exact absurd (by simpa using (List.length_filter_eq_length_iff.mp h1) p hp) h
structure BI (L t : Nat) (O : List Nat) (C : List (Nat × Nat)) (b : Bld) : Prop where
  len : b.cs.length = 1 + t
  u : b.u = 1 + cutsB L t C
  last : b.cs.getD t 0 = b.l
  hub : b.cs.getD 0 0 = O.getD 0 0
  sub : ∀ x, x ∈ b.cs → x ∈ O.take b.u
  one : ∀ j, j < b.u → ∃ r, Rt L b.cs (O.getD j 0) r ∧ ∀ c, Rt L b.cs (O.getD j 0) c → c = r
theorem take_mem {O : List Nat} {j u : Nat} (h : j < u) (h2 : j < O.length) : O.getD j 0 ∈ O.take u := by
  rw [List.mem_take_iff_getElem]
  refine ⟨j, by omega, ?_⟩
  rw [List.getD_eq_getElem?_getD, List.getElem?_eq_getElem h2]
  rfl
theorem not_take {O : List Nat} (nd : O.Nodup) {u : Nat} (h : u < O.length) : O.getD u 0 ∉ O.take u := by
  intro z
  rw [List.mem_take_iff_getElem] at z
  obtain ⟨i, hi, e⟩ := z
  rw [List.getD_eq_getElem?_getD, List.getElem?_eq_getElem h] at e
  have e : O[i] = O[u] := e
  exact (List.pairwise_iff_getElem.mp nd) i u (by omega) h (by omega) e
theorem bld_inv {L k : Nat} {O : List Nat} {C : List (Nat × Nat)} (hL : 0 < L) (ndO : O.Nodup) (hO : O.length = k) (hk : 0 < k) (ndC : C.Nodup) (hC : ∀ p, p ∈ C → p.2 < L) (hCk : C.length + 1 = k) : ∀ t, BI L t O C (bld L O C t)
  | 0 => by
    have hc0 : cutsB L 0 C = 0 := by
      unfold cutsB
      rw [List.filter_eq_nil_iff.mpr]
      · rfl
      · intro p _
        simp
    refine ⟨by simp [bld], by simp [bld, hc0], by simp [bld], by simp [bld], fun x hx => ?_, fun j hj => ⟨0, ?_, fun c hc => ?_⟩⟩
    · have : x = O.getD 0 0 := by simpa [bld] using hx
      rw [this]
      exact take_mem (by simp [bld]) (by omega)
    · have : j = 0 := by simpa [bld] using hj
      subst this
      exact ⟨by simp [bld], by simp [bld], .inl rfl⟩
    · have := hc.1
      simp [bld] at this
      exact this
  | t + 1 => by
    have ih := bld_inv hL ndO hO hk ndC hC hCk t
    have hstep := cuts_step (t := t) hL ndC hC
    have hne : (bld L O C t).cs ≠ [] := fun z => by
      have := ih.len
      rw [z] at this
      simp at this
      omega
    -- the land just towards the hub
    have hinn : (bld L O C t).cs.getD (innF L (bld L O C t).cs.length) 0 = if t % L = 0 then O.getD 0 0 else (bld L O C t).l := by
      unfold innF
      rw [ih.len, Nat.add_sub_cancel_left]
      split
      · exact ih.hub
      · exact ih.last
    by_cases hcut : (t / L, t % L) ∈ C
    · have hb : bld L O C (t + 1) = ⟨(bld L O C t).cs ++ [O.getD (bld L O C t).u 0], (bld L O C t).u + 1, O.getD (bld L O C t).u 0⟩ := by
        rw [bld]
        exact if_pos hcut
      rw [if_pos hcut] at hstep
      have hu : (bld L O C t).u < O.length := by
        have h1 : ¬ (t / L, t % L).1 * L + (t / L, t % L).2 < t := by
          show ¬ t / L * L + t % L < t
          rw [Nat.mul_comm, Nat.div_add_mod]
          omega
        have := cuts_lt hcut h1
        rw [ih.u]
        omega
      have hfresh := not_take ndO hu
      have hl0 : (if t % L = 0 then O.getD 0 0 else (bld L O C t).l) ∈ O.take (bld L O C t).u := by
        split
        · exact take_mem (by rw [ih.u]; omega) (by omega)
        · rw [← ih.last]
          exact ih.sub _ (getD_mem (by rw [ih.len]; omega))
      rw [hb]
      refine ⟨by simp [ih.len]; omega, by show _ + 1 = _; rw [ih.u, hstep]; omega, ?_, ?_, fun x hx => ?_, fun j hj => ?_⟩
      · show ((bld L O C t).cs ++ [_]).getD (t + 1) 0 = _
        rw [show t + 1 = (bld L O C t).cs.length by rw [ih.len]; omega, getD_last]
      · show ((bld L O C t).cs ++ [_]).getD 0 0 = _
        rw [getD_snoc (by rw [ih.len]; omega)]
        exact ih.hub
      · rcases List.mem_append.mp hx with hx | hx
        · have := ih.sub x hx
          rw [List.mem_take_iff_getElem] at this ⊢
          obtain ⟨i, hi, e⟩ := this
          exact ⟨i, by show i < min ((bld L O C t).u + 1) _; omega, e⟩
        · rw [List.mem_singleton.mp hx]
          exact take_mem (Nat.lt_succ_self _) hu
      · have hj : j < (bld L O C t).u + 1 := hj
        by_cases hju : j = (bld L O C t).u
        · subst hju
          refine ⟨(bld L O C t).cs.length, (rt_snoc hne).mpr (.inr ⟨rfl, rfl, ?_⟩), fun c hc => ?_⟩
          · rw [hinn]
            exact fun z => hfresh (by rw [← z]; exact hl0)
          · rcases (rt_snoc hne).mp hc with h | h
            · exact absurd (ih.sub _ (by rw [← h.2.1]; exact getD_mem h.1)) hfresh
            · exact h.1
        · obtain ⟨r, h1, h2⟩ := ih.one j (by omega)
          refine ⟨r, (rt_snoc hne).mpr (.inl h1), fun c hc => ?_⟩
          rcases (rt_snoc hne).mp hc with h | h
          · exact h2 c h
          · exact absurd (by rw [h.2.1]; exact take_mem (by omega) (by omega)) hfresh
    · have hb : bld L O C (t + 1) = ⟨(bld L O C t).cs ++ [if t % L = 0 then O.getD 0 0 else (bld L O C t).l], (bld L O C t).u, if t % L = 0 then O.getD 0 0 else (bld L O C t).l⟩ := by
        rw [bld]
        exact if_neg hcut
      rw [if_neg hcut, Nat.add_zero] at hstep
      rw [hb]
      refine ⟨by simp [ih.len]; omega, by show _ = _; rw [ih.u, hstep, Nat.add_zero], ?_, ?_, fun x hx => ?_, fun j hj => ?_⟩
      · show ((bld L O C t).cs ++ [_]).getD (t + 1) 0 = _
        rw [show t + 1 = (bld L O C t).cs.length by rw [ih.len]; omega, getD_last]
      · show ((bld L O C t).cs ++ [_]).getD 0 0 = _
        rw [getD_snoc (by rw [ih.len]; omega)]
        exact ih.hub
      · rcases List.mem_append.mp hx with hx | hx
        · exact ih.sub x hx
        · rw [List.mem_singleton.mp hx]
          split
          · exact take_mem (by rw [ih.u]; omega) (by omega)
          · rw [← ih.last]
            exact ih.sub _ (getD_mem (by rw [ih.len]; omega))
      · obtain ⟨r, h1, h2⟩ := ih.one j hj
        refine ⟨r, (rt_snoc hne).mpr (.inl h1), fun c hc => ?_⟩
        rcases (rt_snoc hne).mp hc with h | h
        · exact h2 c h
        · exfalso
          obtain ⟨h3, h4, h5⟩ := h
          subst h3
          rw [hinn] at h5
          exact h5 h4
/-- the law's map is one -/
theorem bld_wf {A L k : Nat} {O : List Nat} {C : List (Nat × Nat)} (A3 : 3 ≤ A) (A4 : A ≤ 4) (L1 : 1 ≤ L) (L3 : L ≤ 3) (k2 : 2 ≤ k) (kL : k ≤ L + 1) (ndO : O.Nodup) (hO : O.length = k) (hOk : ∀ x, x ∈ O → x < k) (ndC : C.Nodup) (hC : ∀ p, p ∈ C → p.1 < A ∧ p.2 < L) (hCk : C.length + 1 = k) :
    Wf A L k (bld L O C (A * L)).cs := by
  have b := bld_inv (t := A * L) (by omega) ndO hO (by omega) ndC (fun p hp => (hC p hp).2) hCk
  have hu : (bld L O C (A * L)).u = k := by
    rw [b.u]
    have : cutsB L (A * L) C = C.length := by
      unfold cutsB
      rw [List.filter_eq_self.mpr]
      intro p hp
      have h1 := hC p hp
      have : (p.1 + 1) * L ≤ A * L := Nat.mul_le_mul_right L h1.1
      rw [Nat.add_mul] at this
      simp; omega
    omega
  refine ⟨A3, A4, L1, L3, k2, kL, b.len, fun x hx => hOk x (List.mem_of_mem_take (b.sub x hx)), fun x hx => ?_⟩
  rw [hang_rt]
  -- x stands in the order
  have : x ∈ O := by
    rcases Classical.em (x ∈ O) with h | h
    · exact h
    · have h1 := nodup_len (F := x :: O) (S := List.range k) (List.nodup_cons.mpr ⟨h, ndO⟩) fun y hy => by
        rcases List.mem_cons.mp hy with e | hy
        · rw [e]; exact List.mem_range.mpr hx
        · exact List.mem_range.mpr (hOk y hy)
      rw [List.length_range, List.length_cons] at h1
      omega
  obtain ⟨j, hj, e⟩ := List.getElem_of_mem this
  have := b.one j (by omega)
  rw [List.getD_eq_getElem?_getD, List.getElem?_eq_getElem hj] at this
  rw [← e]
  exact this
end SL

set_option maxHeartbeats 4000000
/-! the law's map -/
namespace SL
open PySem PySem.Spec PyProof.Rows L2 GxR GX StX

def allp (A L : Nat) : List (Nat × Nat) := (List.range A).flatMap fun a => (List.range L).map fun s => (a, s)
theorem allp_succ (i L : Nat) : allp (i + 1) L = allp i L ++ (List.range L).map fun s => (i, s) := by
  unfold allp
  rw [List.range_succ, List.flatMap_append]
  simp
theorem allp_mem {A L : Nat} {p : Nat × Nat} : p ∈ allp A L ↔ p.1 < A ∧ p.2 < L := by
  unfold allp
  rw [List.mem_flatMap]
  constructor
  · rintro ⟨a, ha, h⟩
    obtain ⟨s, hs, rfl⟩ := List.mem_map.mp h
    exact ⟨List.mem_range.mp ha, List.mem_range.mp hs⟩
  · rintro ⟨h1, h2⟩
    exact ⟨p.1, List.mem_range.mpr h1, List.mem_map.mpr ⟨p.2, List.mem_range.mpr h2, rfl⟩⟩
theorem allp_len : ∀ A L : Nat, (allp A L).length = A * L
  | 0, L => by simp [allp]
  | A + 1, L => by
    rw [allp_succ, List.length_append, allp_len A L, List.length_map, List.length_range, Nat.add_mul, Nat.one_mul]
theorem allp_nodup : ∀ A L : Nat, (allp A L).Nodup
  | 0, L => by simp [allp]
  | A + 1, L => by
    rw [allp_succ, List.nodup_append]
    refine ⟨allp_nodup A L, ?_, fun a ha b hb e => ?_⟩
    · refine (List.pairwise_map).mpr (List.nodup_range.imp fun {x y} h z => h ?_)
      injection z
    · obtain ⟨s, _, rfl⟩ := List.mem_map.mp hb
      rw [e] at ha
      have := (allp_mem.mp ha).1
      simp at this
theorem num_tkd (t : Nat × Nat) : (tkd t).num = true := by simp [tkd, Dat.num, Dat.nums, nd]
theorem tkd_inj {a b : Nat × Nat} (h : tkd a = tkd b) : a = b := by
  unfold tkd nd at h
  injection h with h
  injection h with h1 h2
  injection h2 with h2 _
  injection h1 with h1
  injection h2 with h2
  exact Prod.ext (Int.ofNat.inj h1) (Int.ofNat.inj h2)
theorem eqD_tkd (a b : Nat × Nat) : eqD (tkd a) (tkd b) = decide (a = b) := by
  unfold eqD
  rw [Bool.eq_iff_iff, eqv_num _ _ (num_tkd a) (num_tkd b), decide_eq_true_iff]
  exact ⟨tkd_inj, fun h => by rw [h]⟩
theorem dep_tkd (t : Nat × Nat) : (tkd t).dep = 1 := by simp [tkd, Dat.dep, Dat.deps, nd]
theorem deps_tkd : ∀ l : List (Nat × Nat), Dat.deps (l.map tkd) ≤ 1
  | [] => by simp [Dat.deps]
  | t :: l => by
    have := deps_tkd l
    rw [List.map_cons, Dat.deps, dep_tkd]
    omega
section
variable {X : Cx} {σ : L2.St} {H : Hp} {a b e : Expr} {pos p1 p2 q1 : Pos} {D : Ends} {rest : List Stmt} {x : Str}
/-- pair in pairs -/
theorem any_pys (t : Nat × Nat) : ∀ C : List (Nat × Nat), ((Dat.pys (C.map tkd)).any fun z => PyData.eqv z (tkd t).py) = decide (t ∈ C)
  | [] => by simp [Dat.pys]
  | c :: C => by
    rw [List.map_cons, Dat.pys, List.any_cons, any_pys t C, show PyData.eqv (tkd c).py (tkd t).py = decide (c = t) from eqD_tkd c t]
    rw [Bool.eq_iff_iff]
    simp only [Bool.or_eq_true, decide_eq_true_eq, List.mem_cons]
    exact ⟨fun h => h.imp_left Eq.symm, fun h => h.imp_left Eq.symm⟩
theorem t_inP {t : Nat × Nat} {C : List (Nat × Nat)} (hu : X.A.units + 65 < cLine) (ha : EV X σ H a (isd X (tkd t))) (hb : EV X σ H b (isl X (C.map tkd))) (hm : behindInMarks .In b = false := by with_unfolding_all rfl) : ET X σ H (.Compare a [.In] [b] pos) (decide (t ∈ C)) :=
  et_cmp (op_inD hu) ha hb (fun H0 H1 H2 x y _ _ e2 r1 ⟨q, xs, ey, hq, hx⟩ Q k => by
    rw [ey]
    refine ⟨(tkd t).py, Dat.pys (C.map tkd), TD.dp _ _ (TD.mono r1 e2.tk), .lst hq (TDs.dp _ _ hx), shaped_py (by rw [dep_tkd]; omega), shaped_lst (by have := deps_tkd C; omega), ?_⟩
    rw [any_pys]
    exact k) hm
/-- list(range(n)) -/
theorem v_listR {n : Nat} (he : EV X σ H e (isd X (nd n))) (hn : n ≤ 16777216) (hm1 : X.mg "list" = none) (hm2 : X.mg "range" = none) (hc : X.calm = true := by rfl) (hg1 : Gl X "list" := by rfl) (hg2 : Gl X "range" := by rfl) (na : starEach [e] X.env = (false, eval e X.env) :: starEach [] X.env := by rfl)
    (na2 : starEach [.Call (.Name "range" p1) [e] [] p2] X.env = (false, eval (.Call (.Name "range" p1) [e] [] p2) X.env) :: starEach [] X.env := by rfl) : EV X σ H (.Call (.Name "list" q1) [.Call (.Name "range" p1) [e] [] p2] [] pos) (isn X ((List.range n).map nd)) :=
  EV.by (pe_listRg hc hg1 hm1 (prg_1 hg2 hm2 pwe na) na2) fun H1 e1 Q k => he H1 e1 _ fun v H2 e2 r => ⟨n, int_inv r, RgOk.of_le (Int.le_refl _) (by omega) (by omega) (by omega), fun q hq => k _ _ (e2.trans (Ext.new hq)) ⟨q, _, rfl, e2.free hq, upd_same, by
    have : rgV 0 (n : Int) = (List.range n).map nv := by
      unfold rgV
      rw [Int.sub_zero, Int.toNat_natCast]
      refine List.map_congr_left fun i _ => ?_
      rw [Int.zero_add]
      rfl
    rw [this]
    exact tds_ints _⟩⟩
theorem we_pick {p sc q : Addr} {xs : List V} {ds : List Dat} {j : Nat} {Q : VK} (F : Clb X.prog X.w X.K X.mg X.base 2 "_law_pick" (spPick X.K)) (hr : Room j X.A) (hrow : RowAt X.K H p sc) (ha : EV X σ H a (isr (.ref p))) (hb : EV X σ H b (isr (.ref q))) (hq : H q = some (.lst xs)) (hqp : q ≠ p) (hds : TDs X.K H xs ds) (h0 : 0 < ds.length) (h1 : ds.length < 1073741824)
    (k : ∀ (i : Nat) (d : Dat) (v : V) (H' : Hp), ds[i]? = some d → ExtR p H H' → RowAt X.K H' p sc → TD X.K H' v d → Q v H') (hk : 2 ≤ j := by decide) (hg : Gl X "_law_pick" := by rfl) (he : starEach [a, b] X.env = (false, eval a X.env) :: starEach [b] X.env := by rfl) (he2 : starEach [b] X.env = (false, eval b X.env) :: starEach [] X.env := by rfl)
    (hpl : (backTo pos (starEach [b] X.env)).any (·.1) = false := by rfl) : WE X (.Call (.Name "_law_pick" q1) [a, b] [] pos) σ H Q :=
  WE.of (pe_cl F hr (pa_cons pwe (pa_cons pwe pa_nil he2) he) hk hg (by decide) he hpl) (ha H (Ext.refl _) _ fun u H1 e1 r1 => hb H1 e1 _ fun v H2 e2 r2 => ⟨p, sc, q, xs, ds, by rw [show u = .ref p from r1, show v = .ref q from r2]; rfl, (e1.trans e2).lst hq, hqp, hds.mono (e1.trans e2).tk, h0, h1, hrow.ext (e1.trans e2), fun i d v H' g1 g2 g3 g4 => k i d v H' g1 (((e1.trans e2).r p).trans g2) g3 g4⟩)
theorem b_setW (i : Nat) (he : WE X e σ H fun v H' => WB X rest D (σ.set i (some v)) H') (hN : X.N.Nodup := by assumption) (hi : X.N[i]? = some x := by rfl) (hx : Loc X.env.scope x := by first | exact Or.inl rfl | exact Or.inr rfl)
    (hs : swapsWith e (some (.Name x p1)) pos.line X.env = pure false := by rfl) (hf : X.fn x = true ∨ X.env.scope.names.lookup x = some .local := by first | exact .inl rfl | exact .inr rfl) : WB X (.Assign [.Name x p1] e pos :: rest) D σ H :=
  b_cons (WS.of (ps_set hN hi hx pwe hs hf) he)
end
section
variable {P : Program} {w : World} {K : PySem.W.Frag} {mg : Str → Option Value} {base : Heap}
def spMap (K : PySem.W.Frag) : Sp := fun vs H Q _ => ∃ (p sc : Addr) (A L k : Nat), vs = [.ref p, nv A, nv L, nv k] ∧ 3 ≤ A ∧ A ≤ 4 ∧ 1 ≤ L ∧ L ≤ 3 ∧ 2 ≤ k ∧ k ≤ L + 1 ∧ RowAt K H p sc ∧ ∀ (cs : List Nat) (v : V) (H' : Hp), Wf A L k cs → ExtR p H H' → RowAt K H' p sc → TD K H' v (chd (A, cs)) → Q v H'
theorem ok_law_map {f : Addr} {fd : FuncData} (F : Fun K "_law_map" "_law_map" t_law_map f fd) (B : Bt mg) (Pk : Clb P w K mg base 2 "_law_pick" (spPick K)) : FnOk P w K mg base CX0 3 f fd p_law_map (spMap K) := by
  refine okW F sc_law_map (fun vs H Q E h => ?_) (fun cdv Ar outer s H vs Q E hcd hr h => ?_)
  · obtain ⟨p, sc, A, L, k, rfl, _⟩ := h
    rfl
  · obtain ⟨p, sc, A, L, k, rfl, hA3, hA4, hL1, hL3, hk2, hkL, hrow, hQ⟩ := h
    have nd := sc_law_map.nd
    have hu : (Ar.deeper (envOfC "_law_map" (defScope t_law_map) s.heap.objs.size f cdv)).units + 65 < cLine := by have := hr.un; omega
    have hu64 : (Ar.deeper (envOfC "_law_map" (defScope t_law_map) s.heap.objs.size f cdv)).units + 64 < cLine := by have := hr.un; omega
    have hAL : A * L ≤ 12 := Nat.mul_le_mul hA4 hL3
    obtain ⟨ys0, hp0⟩ := hrow.lst
    have neP : ∀ {q : Addr}, H q = none → q ≠ p := fun h z => by
      rw [z, hp0] at h
      cases h
    refine b_par 6 7 (v_lst (ds := []) a_nil (Nat.zero_le _)) (v_lst (ds := []) a_nil (Nat.zero_le _)) fun v w' H1 H2 e1 e2 r1 r2 => ?_
    obtain ⟨pl, xl, rfl, hl0, hl1, hl2⟩ := r1
    obtain ⟨pc, xc, rfl, hc0, hc1, hc2⟩ := r2
    refine b_forR 4 (m := A) (v_n 1 rfl (.int _)) (by omega) (fun i σ' H' => ∃ (pl : Addr) (xl : List V) (o4 : Option V), σ' = [some (.ref p), some (nv A), some (nv L), some (nv k), o4, none, some (.ref pl), some (.ref pc), none, none, none, none, none, none, none, none, none] ∧ Ext H H' ∧ H pl = none ∧ H' pl = some (.lst xl) ∧ TDs K H' xl ((allp i L).map tkd) ∧ H' pc = some (.lst xc) ∧ TDs K H' xc [])
      (fun H3 e3 => ⟨pl, xl, none, rfl, (e1.trans e2).trans e3, hl0, (e2.trans e3).lst hl1, hl2.mono (e2.trans e3).tk, e3.lst hc1, hc2.mono e3.tk⟩) ?_ ?_ B.range
    · rintro i σ' H3 hi ⟨pl, xl, o4, rfl, e3, hl0, hl3, hx3, hc3, hxc3⟩
      have hal := allp_len i L
      have hiL : i * L ≤ A * L := Nat.mul_le_mul_right L (by omega)
      refine b_set 6 (v_cat (es := ((List.range L).map fun s => (i, s)).map tkd) (v_h 6 rfl hl3 hx3) (EV.hd (EV.toN (v_lcR 14 (m := L) (q := fun _ => true) (gd := fun s => tkd (i, s)) (v_n 2 rfl (.int _)) (by omega) B.range (fun s' H' hs e' s2 H0 C cl fp => ⟨c_nil, fun _ => v_tup (ds := [SL.nd i, SL.nd s']) (a_d (v_n 4 rfl (.int _)) (a_d (v_n 14 rfl (.int _)) a_nil)) (by simp [sizeLine_eq])⟩)) ?_)) ?_) fun v H4 e4 ⟨pn, xn, hv, hn0, hn1, hn2⟩ => ?_
      · rw [filter_all, List.map_map]
        rfl
      · rw [List.length_map, List.length_map, List.length_map, List.length_range, hal, sizeLine_eq]
        omega
      · subst hv
        refine b_nil ⟨pn, xn, _, rfl, e3.trans e4, e3.free hn0, hn1, ?_, e4.lst hc3, hxc3.mono e4.tk⟩
        rw [allp_succ, List.map_append]
        exact hn2
    rintro σ' H3 ⟨pl, xl, o4, rfl, e3, hl0, hl3, hx3, hc3, hxc3⟩
    have hHpc : H pc = none := e1.free hc0
    -- the cuts
    refine b_forR 5 (m := k - 1) (v_subn (v_n 3 rfl (.int _)) (v_num (n := 1)) (by omega)) (by omega) (fun i σ' H' => ∃ (pl pc : Addr) (xl xc : List V) (left C : List (Nat × Nat)) (o5 o8 : Option V), σ' = [some (.ref p), some (nv A), some (nv L), some (nv k), o4, o5, some (.ref pl), some (.ref pc), o8, none, none, none, none, none, none, none, none] ∧ ExtR p H H' ∧ RowAt K H' p sc ∧ pl ≠ p ∧ pc ≠ p ∧
        H' pl = some (.lst xl) ∧ TDs K H' xl (left.map tkd) ∧ H' pc = some (.lst xc) ∧ TDs K H' xc (C.map tkd) ∧ C.length = i ∧ C.Nodup ∧ (∀ t, t ∈ left ↔ t ∈ allp A L ∧ t ∉ C) ∧ (∀ t, t ∈ C → t ∈ allp A L) ∧ left.length ≤ 100)
      (fun H4 e4 => ⟨pl, pc, xl, xc, allp A L, [], none, none, rfl, (e3.trans e4).r p, hrow.ext (e3.trans e4), neP hl0, neP hHpc, e4.lst hl3, hx3.mono e4.tk, e4.lst hc3, hxc3.mono e4.tk, rfl, by simp, fun t => by simp, (fun t ht => by cases ht), by rw [allp_len]; omega⟩) ?_ ?_ B.range
    · rintro i σ' H4 hi ⟨pl, pc, xl, xc, left, C, o5, o8, rfl, x4, hrow4, hplp, hpcp, hl4, hxl4, hc4, hxc4, hCl, hCn, hleft, hCa, hll⟩
      have hlp : 0 < left.length := by
        cases left with
        | cons _ _ => simp
        | nil =>
          exfalso
          have h1 := nodup_len (F := allp A L) (S := C) (allp_nodup A L) fun t ht => by
            rcases Classical.em (t ∈ C) with h | h
            · exact h
            · exact absurd ((hleft t).mpr ⟨ht, h⟩) (by simp)
          rw [allp_len, hCl] at h1
          have : L ≤ A * L := Nat.le_mul_of_pos_left L (by omega)
          omega
      refine b_setW 8 (we_pick Pk hr hrow4 (v_r 0 rfl) (v_r 6 rfl) hl4 hplp hxl4 (by rw [List.length_map]; exact hlp) (by rw [List.length_map]; omega) fun j d v H5 hd x5 hrow5 hv => ?_)
      obtain ⟨t, ht, rfl⟩ : ∃ t, left[j]? = some t ∧ d = tkd t := by
        rw [List.getElem?_map] at hd
        cases e : left[j]? with
        | none => rw [e] at hd; cases hd
        | some n => rw [e] at hd; exact ⟨n, rfl, (Option.some.inj hd).symm⟩
      have htl : t ∈ left := List.mem_of_getElem? ht
      obtain ⟨ys4, hp4⟩ := hrow4.lst
      have tk5 := x5.tk hp4
      have hl5 := x5.lst hl4 hplp
      have hc5 := x5.lst hc4 hpcp
      have hxl5 := hxl4.mono tk5
      have hxc5 := hxc4.mono tk5
      refine b_par 7 6 (v_cat (es := [t].map tkd) (v_h 7 rfl hc5 hxc5) (EV.hd (v_lst (ds := [t].map tkd) (a_d (v_n 8 rfl hv) a_nil) (by simp [sizeLine_eq]))) (by rw [List.length_map, sizeLine_eq, hCl]; simp; omega))
        (v_lcL 15 (ds := left.map tkd) (q := fun n => !decide (left[n]? = some t)) (gd := fun n => tkd ((left[n]?).getD (0, 0))) (v_l 6 rfl (SqL.of hl5) hxl5) (by rw [List.length_map, sizeLine_eq]; omega) fun n d u H' hd hu' e' s' H0 Cc cl fp => ?_) fun vc vl H6 H7 e6 e7 rc rl => b_nil ?_
      · obtain ⟨t', ht', rfl⟩ : ∃ t, left[n]? = some t ∧ d = tkd t := by
          rw [List.getElem?_map] at hd
          cases e : left[n]? with
          | none => rw [e] at hd; cases hd
          | some m => rw [e] at hd; exact ⟨m, rfl, (Option.some.inj hd).symm⟩
        rw [ht']
        refine ⟨c_one (ET.to (t_neD (d := tkd t') (e := tkd t) hu64 (v_n 15 rfl hu') (v_n 8 rfl (hv.mono e'.tk)) (by rw [dep_tkd]; omega) (by rw [dep_tkd]; omega)) ?_), fun _ => ?_⟩
        rotate_left
        · exact v_n (d := tkd t') 15 rfl hu'
        rw [eqD_tkd]
        simp
      · obtain ⟨pc', xc', rfl, hc0', hc1', hc2'⟩ := rc
        obtain ⟨pl', xl', rfl, hl0', hl1', hl2'⟩ := rl
        obtain ⟨ys5, hp5⟩ := hrow5.lst
        have hfl : ((List.range (left.map tkd).length).filter fun n => !decide (left[n]? = some t)).map (fun n => tkd ((left[n]?).getD (0, 0))) = (left.filter fun x => !decide (x = t)).map tkd := by
          rw [List.length_map]
          have e : left = (List.range left.length).map (fun i => (left[i]?).getD (0, 0)) := by
            apply List.ext_getElem
            · simp
            · intro i h1 h2
              simp [List.getElem?_eq_getElem h1]
          conv => rhs; rw [e, List.filter_map, List.map_map]
          have : (List.range left.length).filter (fun n => !decide (left[n]? = some t)) = (List.range left.length).filter ((fun x => !decide (x = t)) ∘ fun i => (left[i]?).getD (0, 0)) := by
            refine List.filter_congr fun n hn => ?_
            have hn := List.mem_range.mp hn
            simp [List.getElem?_eq_getElem hn]
          rw [this]
          rfl
        rw [hfl] at hl2'
        have e57 := e6.trans e7
        have npc : pc' ≠ p := fun z => by
          rw [z, hp5] at hc0'
          cases hc0'
        have npl : pl' ≠ p := fun z => by
          rw [z, e6.lst hp5] at hl0'
          cases hl0'
        refine ⟨pl', pc', xl', xc', left.filter fun x => !decide (x = t), C ++ [t], _, _, rfl, (x4.trans x5).trans (e57.r p), hrow5.ext e57, npl, npc, hl1', hl2', e7.lst hc1', ?_, by rw [List.length_append, hCl]; rfl, ?_, fun u => ?_, fun u hu => ?_, Nat.le_trans (List.length_filter_le _ _) hll⟩
        · rw [List.map_append]
          exact hc2'.mono e7.tk
        · rw [List.nodup_append]
          refine ⟨hCn, by simp, fun a ha b hb e => ?_⟩
          rw [List.mem_singleton.mp hb] at e
          rw [e] at ha
          exact ((hleft t).mp htl).2 ha
        · rw [List.mem_filter, hleft u, List.mem_append, List.mem_singleton]
          simp only [Bool.not_eq_true', decide_eq_false_iff_not]
          exact ⟨fun h => ⟨h.1.1, fun z => z.elim h.1.2 h.2⟩, fun h => ⟨⟨h.1, fun z => h.2 (.inl z)⟩, fun z => h.2 (.inr z)⟩⟩
        · rcases List.mem_append.mp hu with h | h
          · exact hCa u h
          · rw [List.mem_singleton.mp h]
            exact ((hleft t).mp htl).1
    rintro σ' H4 ⟨pl, pc, xl, xc, left, C, o5, o8, rfl, x4, hrow4, hplp, hpcp, hl4, hxl4, hc4, hxc4, hCl, hCn, hleft, hCa, hll⟩
    -- the order
    obtain ⟨ys4, hp4⟩ := hrow4.lst
    refine b_par 9 10 (v_listR (v_n 3 rfl (.int _)) (by omega) B.list B.range) (v_lst (ds := []) a_nil (Nat.zero_le _)) fun vn vo H5 H6 e5 e6 rn ro => ?_
    obtain ⟨pn, xn, rfl, hn0, hn1, hn2⟩ := rn
    obtain ⟨po, xo, rfl, ho0, ho1, ho2⟩ := ro
    have hn2' := tds_int_inv hn2
    subst hn2'
    have ho2' := ho2.nil_
    subst ho2'
    have e46 := e5.trans e6
    have npn : pn ≠ p := fun z => by
      rw [z, hp4] at hn0
      cases hn0
    have npo : po ≠ p := fun z => by
      rw [z, e5.lst hp4] at ho0
      cases ho0
    refine b_forR 5 (m := k) (v_n 3 rfl (.int _)) (by omega) (fun i σ' H' => ∃ (pn po : Addr) (nm O : List Nat) (o5 o8 : Option V), σ' = [some (.ref p), some (nv A), some (nv L), some (nv k), o4, o5, some (.ref pl), some (.ref pc), o8, some (.ref pn), some (.ref po), none, none, none, none, none, none] ∧ ExtR p H H' ∧ RowAt K H' p sc ∧ pn ≠ p ∧ po ≠ p ∧
        H' pc = some (.lst xc) ∧ TDs K H' xc (C.map tkd) ∧ H' pn = some (.lst (nm.map nv)) ∧ H' po = some (.lst (O.map nv)) ∧ O.length = i ∧ O.Nodup ∧ (∀ t, t ∈ nm ↔ t < k ∧ t ∉ O) ∧ (∀ t, t ∈ O → t < k) ∧ nm.length ≤ 100)
      (fun H7 e7 => ⟨pn, po, List.range k, [], _, _, rfl, x4.trans ((e46.trans e7).r p), hrow4.ext (e46.trans e7), npn, npo, (e46.trans e7).lst hc4, hxc4.mono (e46.trans e7).tk, (e6.trans e7).lst hn1, e7.lst ho1, rfl, by simp, fun t => by simp, (fun t ht => by cases ht), by rw [List.length_range]; omega⟩) ?_ ?_ B.range
    · rintro i σ' H7 hi ⟨pn, po, nm, O, o5, o8, rfl, x7, hrow7, hpnp, hpop, hc7, hxc7, hn7, ho7, hOl, hOn, hnm, hOk, hnl⟩
      have hlp : 0 < nm.length := by
        cases nm with
        | cons _ _ => simp
        | nil =>
          exfalso
          have h1 := nodup_len (F := List.range k) (S := O) List.nodup_range fun t ht => by
            rcases Classical.em (t ∈ O) with h | h
            · exact h
            · exact absurd ((hnm t).mpr ⟨List.mem_range.mp ht, h⟩) (by simp)
          rw [List.length_range, hOl] at h1
          omega
      refine b_setW 8 (we_pick Pk hr hrow7 (v_r 0 rfl) (v_r 9 rfl) hn7 hpnp (tds_ints nm) (by rw [len_nd]; exact hlp) (by rw [len_nd]; omega) fun j d v H8 hd x8 hrow8 hv => ?_)
      obtain ⟨t, ht, rfl⟩ := nd_get hd
      have hv := int_inv hv
      subst hv
      have htl : t ∈ nm := List.mem_of_getElem? ht
      obtain ⟨ys7, hp7⟩ := hrow7.lst
      have tk8 := x8.tk hp7
      have hn8 := x8.lst hn7 hpnp
      have ho8 := x8.lst ho7 hpop
      have npc7 : pc ≠ p := hpcp
      refine b_par 10 9 (v_cat (es := [t].map SL.nd) (v_h 10 rfl ho8 (tds_ints O)) (EV.hd (v_lst (ds := [t].map SL.nd) (a_d (v_n 8 rfl (.int _)) a_nil) (by simp [sizeLine_eq]))) (by rw [len_nd, sizeLine_eq, hOl]; simp; omega))
        (EV.toN (es := (nm.filter fun x => x != t).map SL.nd) (v_lcL 16 (ds := nm.map SL.nd) (q := fun n => (fun x => x != t) (nm.getD n 0)) (gd := fun n => SL.nd (nm.getD n 0)) (v_l 9 rfl (SqL.of hn8) (tds_ints nm)) (by rw [len_nd, sizeLine_eq]; omega) fun n d u H' hd hu' e' s' H0 Cc cl fp => ?_) (by rw [len_nd, range_fm (fun x => x != t) SL.nd])) fun vo vn H9 H10 e9 e10 ro rn => b_nil ?_
      · obtain ⟨y, hy, rfl⟩ := nd_get hd
        have hu' := int_inv hu'
        subst hu'
        have hgy : nm.getD n 0 = y := by
          rw [List.getD_eq_getElem?_getD, hy]; rfl
        rw [hgy]
        exact ⟨c_one (t_nen (v_n 16 rfl (.int _)) (v_n 8 rfl (.int _))), fun _ => v_n 16 rfl (.int _)⟩
      · obtain ⟨po', xo', rfl, ho0', ho1', ho2'⟩ := ro
        obtain ⟨pn', xn', rfl, hn0', hn1', hn2'⟩ := rn
        obtain ⟨ys8, hp8⟩ := hrow8.lst
        rw [← List.map_append] at ho2'
        have ho2'' := tds_int_inv ho2'
        subst ho2''
        have hn2'' := tds_int_inv hn2'
        subst hn2''
        have e810 := e9.trans e10
        have npo' : po' ≠ p := fun z => by
          rw [z, hp8] at ho0'
          cases ho0'
        have npn' : pn' ≠ p := fun z => by
          rw [z, e9.lst hp8] at hn0'
          cases hn0'
        refine ⟨pn', po', nm.filter fun x => x != t, O ++ [t], _, _, rfl, (x7.trans x8).trans (e810.r p), hrow8.ext e810, npn', npo', e810.lst (x8.lst hc7 npc7), hxc7.mono (tk8.trans e810.tk), hn1', e10.lst ho1', by rw [List.length_append, hOl]; rfl, ?_, fun u => ?_, fun u hu => ?_, Nat.le_trans (List.length_filter_le _ _) hnl⟩
        · rw [List.nodup_append]
          refine ⟨hOn, by simp, fun a ha b hb e => ?_⟩
          rw [List.mem_singleton.mp hb] at e
          rw [e] at ha
          exact ((hnm t).mp htl).2 ha
        · rw [List.mem_filter, hnm u, List.mem_append, List.mem_singleton]
          simp only [bne_iff_ne, ne_eq]
          exact ⟨fun h => ⟨h.1.1, fun z => z.elim h.1.2 h.2⟩, fun h => ⟨⟨h.1, fun z => h.2 (.inl z)⟩, fun z => h.2 (.inr z)⟩⟩
        · rcases List.mem_append.mp hu with h | h
          · exact hOk u h
          · rw [List.mem_singleton.mp h]
            exact ((hnm t).mp htl).1
    rintro σ' H7 ⟨pn, po, nm, O, o5, o8, rfl, x7, hrow7, hpnp, hpop, hc7, hxc7, hn7, ho7, hOl, hOn, hnm, hOk, hnl⟩
    -- the cells
    have hO0 : (O.map SL.nd)[0]? = some (SL.nd (O.getD 0 0)) := map_get (getD_get (by omega))
    have W : Wf A L k (bld L O C (A * L)).cs := bld_wf hA3 hA4 hL1 hL3 hk2 hkL hOn hOl hOk hCn (fun t ht => allp_mem.mp (hCa t ht)) (by omega)
    have bi : ∀ t, BI L t O C (bld L O C t) := bld_inv (by omega) hOn hOl (by omega) hCn (fun t ht => (allp_mem.mp (hCa t ht)).2) (by omega)
    refine b_par 11 12 (v_lst (ds := [SL.nd (O.getD 0 0)]) (a_d (v_ixL (n := 0) (v_l 10 rfl (SqL.of ho7) (tds_ints O)) (v_num (n := 0)) hO0) a_nil) (by simp [sizeLine_eq])) (v_num (n := 1)) fun vc vu H8 H9 e8 e9 rc ru => ?_
    obtain ⟨pd, xd, rfl, hd0, hd1, hd2⟩ := rc
    have hd2' := tds_int_inv (l := [O.getD 0 0]) hd2
    subst hd2'
    have ru := int_inv ru
    subst ru
    have e79 := e8.trans e9
    have npd : ∀ {q : Addr} {o : HO}, H7 q = some o → pd ≠ q := fun h z => by
      rw [z, h] at hd0
      cases hd0
    obtain ⟨ys7, hp7⟩ := hrow7.lst
    have hpdc := npd hc7
    have hHpd : H pd = none := x7.free hp0 hd0 (by rw [hp7]; simp)
    have hpdo := npd ho7
    refine b_forR 4 (m := A) (v_n 1 rfl (.int _)) (by omega) (fun i σ' H' => ∃ (o4 o13 o14 : Option V), σ' = [some (.ref p), some (nv A), some (nv L), some (nv k), o4, o5, some (.ref pl), some (.ref pc), o8, some (.ref pn), some (.ref po), some (.ref pd), some (nv (bld L O C (i * L)).u), o13, o14, none, none] ∧ ExtR p H H' ∧ RowAt K H' p sc ∧
        H' pc = some (.lst xc) ∧ TDs K H' xc (C.map tkd) ∧ H' po = some (.lst (O.map nv)) ∧ H' pd = some (.lst ((bld L O C (i * L)).cs.map nv)))
      (fun H10 e10 => ⟨_, _, _, by rw [Nat.zero_mul]; rfl, x7.trans ((e79.trans e10).r p), hrow7.ext (e79.trans e10), (e79.trans e10).lst hc7, hxc7.mono (e79.trans e10).tk, (e79.trans e10).lst ho7, by rw [Nat.zero_mul]; exact (e9.trans e10).lst hd1⟩) ?_ ?_ B.range
    · rintro i σ' H10 hi ⟨o4, o13, o14, rfl, x10, hrow10, hc10, hxc10, ho10, hd10⟩
      have hiL : (i + 1) * L ≤ A * L := Nat.mul_le_mul_right L hi
      have hiL2 : (i + 1) * L = i * L + L := by rw [Nat.add_mul, Nat.one_mul]
      refine b_set 13 (v_ixL (n := 0) (v_l 10 rfl (SqL.of ho10) (tds_ints O)) (v_num (n := 0)) hO0) fun v H11 e11 r11 => ?_
      have r11 := int_inv r11
      subst r11
      refine b_forR 14 (m := L) (v_n 2 rfl (.int _)) (by omega) (fun j σ' H' => ∃ (l : Nat) (o14 : Option V), σ' = [some (.ref p), some (nv A), some (nv L), some (nv k), some (nv i), o5, some (.ref pl), some (.ref pc), o8, some (.ref pn), some (.ref po), some (.ref pd), some (nv (bld L O C (i * L + j)).u), some (nv l), o14, none, none] ∧ ExtR p H H' ∧ RowAt K H' p sc ∧
          H' pc = some (.lst xc) ∧ TDs K H' xc (C.map tkd) ∧ H' po = some (.lst (O.map nv)) ∧ H' pd = some (.lst ((bld L O C (i * L + j)).cs.map nv)) ∧ l = (if j = 0 then O.getD 0 0 else (bld L O C (i * L + j)).l))
        (fun H12 e12 => ⟨_, _, rfl, x10.trans ((e11.trans e12).r p), hrow10.ext (e11.trans e12), (e11.trans e12).lst hc10, hxc10.mono (e11.trans e12).tk, (e11.trans e12).lst ho10, (e11.trans e12).lst hd10, rfl⟩) ?_ ?_ B.range
      · rintro j σ' H12 hj ⟨l, o14, rfl, x12, hrow12, hc12, hxc12, ho12, hd12, hl⟩
        have hmod : (i * L + j) % L = j := by
          rw [Nat.mul_comm, Nat.mul_add_mod, Nat.mod_eq_of_lt hj]
        have hdiv : (i * L + j) / L = i := by
          rw [Nat.mul_comm, Nat.mul_add_div (by omega), Nat.div_eq_of_lt hj, Nat.add_zero]
        have hbt : bld L O C (i * L + (j + 1)) = (if (i, j) ∈ C then ⟨(bld L O C (i * L + j)).cs ++ [O.getD (bld L O C (i * L + j)).u 0], (bld L O C (i * L + j)).u + 1, O.getD (bld L O C (i * L + j)).u 0⟩ else ⟨(bld L O C (i * L + j)).cs ++ [l], (bld L O C (i * L + j)).u, l⟩) := by
          show bld L O C ((i * L + j) + 1) = _
          rw [bld, hmod, hdiv, hl]
        have hbl := (bi (i * L + j)).len
        have hpp12 := hrow12.lst
        have hpdp : pd ≠ p := npd hp7
        refine b_ifj (fun σ' H' => ∃ (y u : Nat), σ' = [some (.ref p), some (nv A), some (nv L), some (nv k), some (nv i), o5, some (.ref pl), some (.ref pc), o8, some (.ref pn), some (.ref po), some (.ref pd), some (nv u), some (nv y), some (nv j), none, none] ∧ ExtR p H H' ∧ RowAt K H' p sc ∧
            H' pc = some (.lst xc) ∧ TDs K H' xc (C.map tkd) ∧ H' po = some (.lst (O.map nv)) ∧ H' pd = some (.lst ((bld L O C (i * L + j)).cs.map nv)) ∧ bld L O C (i * L + (j + 1)) = ⟨(bld L O C (i * L + j)).cs ++ [y], u, y⟩)
          (t_inP hu (v_tup (ds := [SL.nd i, SL.nd j]) (a_d (v_n 4 rfl (.int _)) (a_d (v_n 14 rfl (.int _)) a_nil)) (by simp [sizeLine_eq])) (v_l 7 rfl (SqL.of hc12) hxc12) (t := (i, j))) (fun hz H13 e13 => ?_) (fun hz H13 e13 => b_nil ?_) ?_
        · have hin : (i, j) ∈ C := by simpa using hz
          have hu' : (bld L O C (i * L + j)).u < O.length := by
            have h1 : ¬ (i, j).1 * L + (i, j).2 < i * L + j := by
              show ¬ i * L + j < i * L + j
              omega
            have := cuts_lt hin h1
            rw [(bi (i * L + j)).u]
            omega
          refine b_par 13 12 (v_ixL (n := (bld L O C (i * L + j)).u) (v_l 10 rfl (SqL.of (e13.lst ho12)) (tds_ints O)) (v_n 12 rfl (.int _)) (map_get (getD_get hu'))) (v_addn (v_n 12 rfl (.int _)) (v_num (n := 1))) fun v1 v2 H14 H15 e14 e15 q1 q2 => b_nil ?_
          have q1 := int_inv q1
          subst q1
          have q2 := int_inv q2
          subst q2
          have e1215 := (e13.trans e14).trans e15
          refine ⟨_, _, rfl, x12.trans (e1215.r p), hrow12.ext e1215, e1215.lst hc12, hxc12.mono e1215.tk, e1215.lst ho12, e1215.lst hd12, ?_⟩
          rw [hbt, if_pos hin]
        · have hin : (i, j) ∉ C := by simpa using hz
          refine ⟨_, _, rfl, x12.trans (e13.r p), hrow12.ext e13, e13.lst hc12, hxc12.mono e13.tk, e13.lst ho12, e13.lst hd12, ?_⟩
          rw [hbt, if_neg hin]
        · rintro σ' H13 ⟨y, u, rfl, x13, hrow13, hc13, hxc13, ho13, hd13, hb⟩
          refine b_app 11 rfl hd13 (v_n 13 rfl (.int _)) (by rw [List.length_map, hbl, sizeLine_eq]; omega) fun v H14 e14 rv => b_nil ?_
          have rv := int_inv rv
          subst rv
          have hd14 := e14.lst hd13
          refine ⟨y, _, by rw [hb], (x13.trans (e14.r p)).mut hHpd, hrow7.upd hd0 (hrow13.ext e14), ?_, (hxc13.mono e14.tk).mono (Tk.mutL hd14), ?_, ?_, ?_⟩
          · rw [upd_ne hpdc.symm]
            exact e14.lst hc13
          · rw [upd_ne hpdo.symm]
            exact e14.lst ho13
          · rw [upd_same, hb, List.map_append]
            rfl
          · rw [if_neg (Nat.succ_ne_zero j), hb]
      · rintro σ' H12 ⟨l, o14, rfl, x12, hrow12, hc12, hxc12, ho12, hd12, hl⟩
        exact b_nil ⟨_, _, _, by rw [hiL2], x12, hrow12, hc12, hxc12, ho12, by rw [hiL2]; exact hd12⟩
    · rintro σ' H10 ⟨o4, o13, o14, rfl, x10, hrow10, hc10, hxc10, ho10, hd10⟩
      refine b_ret (v_tup (ds := [SL.nd A, lnd (bld L O C (A * L)).cs]) (a_d (v_n 1 rfl (.int _)) (a_d (v_toTup B.tuple (v_l 11 rfl (SqL.of hd10) (tds_ints _))) a_nil)) (by simp [sizeLine_eq])) fun v H11 e11 rv => ?_
      exact hQ _ v H11 W (x10.trans (e11.r p)) (hrow10.ext e11) rv
end
end SL

/-! plain: a taking keeps a map, and can be taken back -/
namespace SL
theorem getD_set {cs : List Nat} {c d l : Nat} (hc : c < cs.length) : (cs.set c l).getD d 0 = if d = c then l else cs.getD d 0 := by
  rw [List.getD_eq_getElem?_getD, List.getElem?_set]
  by_cases h : c = d
  · subst h
    simp [hc]
  · rw [if_neg h, if_neg (fun z => h z.symm), List.getD_eq_getElem?_getD]
theorem held_other {cs : List Nat} {c l x : Nat} (hc : c < cs.length) (h1 : x ≠ l) (h2 : x ≠ cs.getD c 0) : heldF (cs.set c l) x = heldF cs x := by
  unfold heldF
  rw [List.length_set]
  refine List.filter_congr fun d _ => ?_
  rw [getD_set hc]
  by_cases e : d = c
  · rw [if_pos e, e, Bool.eq_iff_iff, beq_iff_eq, beq_iff_eq]
    exact ⟨fun z => absurd z.symm h1, fun z => absurd z.symm h2⟩
  · rw [if_neg e]
theorem held_rest {cs : List Nat} {c l : Nat} (hc : c < cs.length) (h1 : cs.getD c 0 ≠ l) : heldF (cs.set c l) (cs.getD c 0) = (heldF cs (cs.getD c 0)).filter fun o => o != c := by
  unfold heldF
  rw [List.length_set, List.filter_filter]
  refine List.filter_congr fun d _ => ?_
  rw [getD_set hc]
  by_cases e : d = c
  · rw [if_pos e, e, beq_eq_false_iff_ne.mpr h1.symm]
    simp
  · rw [if_neg e]
    simp [e]
theorem made_iff {A L : Nat} {cs : List Nat} {l c : Nat} : madeF A L cs l c = true ↔ cs.getD c 0 ≠ l ∧ (∃ o, o ∈ nearF A L c ∧ cs.getD o 0 = l) ∧ hangF L ((heldF cs (cs.getD c 0)).filter fun o => o != c) = true := by
  unfold madeF
  rw [Bool.and_eq_true, Bool.and_eq_true, bne_iff_ne, List.any_eq_true]
  simp only [beq_iff_eq]
  exact ⟨fun h => ⟨h.1.1, h.1.2, h.2⟩, fun h => ⟨⟨h.1, h.2.1⟩, h.2.2⟩⟩
theorem tak_iff {A L k : Nat} {cs : List Nat} {t : Nat × Nat} : t ∈ takF A L k cs ↔ t.1 < k ∧ t.2 < cs.length ∧ madeF A L cs t.1 t.2 = true := by
  unfold takF
  rw [List.mem_flatMap]
  constructor
  · rintro ⟨l, hl, h⟩
    obtain ⟨c, hc, rfl⟩ := List.mem_map.mp h
    obtain ⟨h1, h2⟩ := List.mem_filter.mp hc
    exact ⟨List.mem_range.mp hl, List.mem_range.mp h1, h2⟩
  · rintro ⟨h1, h2, h3⟩
    exact ⟨t.1, List.mem_range.mpr h1, List.mem_map.mpr ⟨t.2, List.mem_filter.mpr ⟨List.mem_range.mpr h2, h3⟩, rfl⟩⟩
theorem inn_ne {L c : Nat} (h : c ≠ 0) : innF L c ≠ c := Nat.ne_of_lt (inn_lt h)
/-- the land l holds together behind the taking -/
theorem hang_taker {A L : Nat} {cs : List Nat} {l c : Nat} (hL : 0 < L) (hlen : cs.length = 1 + A * L) (hc : c < cs.length) (h : hangF L (heldF cs l) = true) (h1 : cs.getD c 0 ≠ l) (h2 : ∃ o, o ∈ nearF A L c ∧ cs.getD o 0 = l) : hangF L (heldF (cs.set c l) l) = true := by
  rw [hang_rt] at h ⊢
  obtain ⟨r, hr, hu⟩ := h
  have hr1 : r ≠ c := fun z => h1 (by rw [← z]; exact hr.2.1)
  -- a root of the new land that is not c was one
  have old : ∀ d, d ≠ c → Rt L (cs.set c l) l d → Rt L cs l d ∧ (d ≠ 0 → innF L d ≠ c) := fun d hd ⟨q1, q2, q3⟩ => by
    rw [List.length_set] at q1
    rw [getD_set hc, if_neg hd] at q2
    rcases q3 with q3 | q3
    · exact ⟨⟨q1, q2, .inl q3⟩, fun z => absurd q3 z⟩
    · rw [getD_set hc] at q3
      by_cases e : innF L d = c
      · rw [if_pos e] at q3
        exact absurd rfl q3
      · rw [if_neg e] at q3
        exact ⟨⟨q1, q2, .inr q3⟩, fun _ => e⟩
  by_cases hA : c ≠ 0 ∧ cs.getD (innF L c) 0 = l
  · refine ⟨r, ⟨by rw [List.length_set]; exact hr.1, by rw [getD_set hc, if_neg hr1]; exact hr.2.1, ?_⟩, fun d hd => ?_⟩
    · rcases hr.2.2 with q | q
      · exact .inl q
      · by_cases e : innF L r = c
        · exfalso
          -- the way from the inner cell ends before c
          have hi := inn_lt (L := L) hA.1
          have hm : innF L c ∈ heldF cs l := held_mem.mpr ⟨by omega, hA.2⟩
          obtain ⟨r', g1, g2, _, g4⟩ := root_of (L := L) (S := heldF cs l) (fun _ => True) (fun _ _ _ _ => trivial) (innF L c) (innF L c) (Nat.le_refl _) hm trivial
          have e2 := hu r' (root_iff.mp ⟨g1, g2⟩)
          by_cases hr0 : r = 0
          · have h9 : innF L r = 0 := by rw [hr0]; unfold innF; simp
            rw [h9] at e
            exact hA.1 e.symm
          · have := inn_lt (L := L) hr0
            omega
        · right
          rw [getD_set hc, if_neg e]
          exact q
    · by_cases e : d = c
      · subst e
        exfalso
        rcases hd.2.2 with q | q
        · exact hA.1 q
        · rw [getD_set hc, if_neg (inn_ne hA.1)] at q
          exact q hA.2
      · exact hu d (old d e hd).1
  · obtain ⟨o, ho, hol⟩ := h2
    have hob := near_lt hL (by omega) ho
    rcases (mem_near hL (by omega) hob).mp ho with ⟨q1, q2⟩ | ⟨q1, q2⟩
    · exact absurd ⟨q1, by rw [← q2]; exact hol⟩ hA
    · have hro : o = r := hu o ⟨by omega, hol, .inr (by rw [← q2]; exact h1)⟩
      refine ⟨c, ⟨by rw [List.length_set]; exact hc, by rw [getD_set hc, if_pos rfl], ?_⟩, fun d hd => ?_⟩
      · by_cases h0 : c = 0
        · exact .inl h0
        · right
          rw [getD_set hc, if_neg (inn_ne h0)]
          exact fun z => hA ⟨h0, z⟩
      · by_cases e : d = c
        · exact e
        · exfalso
          obtain ⟨g1, g2⟩ := old d e hd
          have hdr := hu d g1
          rw [hdr, ← hro] at g2
          exact g2 q1 q2.symm
theorem Wf.take {A L k : Nat} {cs : List Nat} {t : Nat × Nat} (w : Wf A L k cs) (h : t ∈ takF A L k cs) : Wf A L k (cs.set t.2 t.1) := by
  obtain ⟨h1, h2, h3⟩ := tak_iff.mp h
  obtain ⟨m1, m2, m3⟩ := made_iff.mp h3
  refine ⟨w.A3, w.A4, w.L1, w.L3, w.k2, w.kL, by rw [List.length_set]; exact w.len, fun x hx => ?_, fun x hx => ?_⟩
  · rcases List.mem_or_eq_of_mem_set hx with hx | hx
    · exact w.lt x hx
    · rw [hx]; exact h1
  · by_cases e1 : x = t.1
    · rw [e1]
      exact hang_taker w.L1 w.len h2 (w.hang t.1 h1) m1 m2
    · by_cases e2 : x = cs.getD t.2 0
      · rw [e2, held_rest h2 m1]
        exact m3
      · rw [held_other h2 e1 e2]
        exact w.hang x hx
/-- it can be taken back -/
theorem tak_back {A L k : Nat} {cs : List Nat} {t : Nat × Nat} (w : Wf A L k cs) (h : t ∈ takF A L k cs) : (cs.getD t.2 0, t.2) ∈ takF A L k (cs.set t.2 t.1) ∧ (cs.set t.2 t.1).set t.2 (cs.getD t.2 0) = cs := by
  obtain ⟨h1, h2, h3⟩ := tak_iff.mp h
  obtain ⟨m1, m2, m3⟩ := made_iff.mp h3
  obtain ⟨l, c⟩ := t
  simp only at h1 h2 h3 m1 m2 m3 ⊢
  have hlen := w.len
  have hL := w.L1
  have ho := w.at_lt h2
  refine ⟨tak_iff.mpr ⟨ho, by rw [List.length_set]; exact h2, made_iff.mpr ⟨?_, ?_, ?_⟩⟩, ?_⟩
  · show (cs.set c l).getD c 0 ≠ _
    rw [getD_set h2, if_pos rfl]
    exact m1.symm
  · -- else c and the rest's root would both be roots
    apply Classical.byContradiction
    intro hno
    have hno' : ∀ o, o ∈ nearF A L c → o ≠ c → cs.getD o 0 ≠ cs.getD c 0 := fun o ho1 hoc z => hno ⟨o, ho1, by show (cs.set c l).getD o 0 = _; rw [getD_set h2, if_neg hoc]; exact z⟩
    obtain ⟨r, hr, hu⟩ := hang_rt.mp (w.hang (cs.getD c 0) ho)
    have hc : Rt L cs (cs.getD c 0) c := by
      refine ⟨h2, rfl, ?_⟩
      by_cases h0 : c = 0
      · exact .inl h0
      · right
        have hi := inn_lt (L := L) h0
        exact hno' _ ((mem_near hL (by omega) (by omega)).mpr (.inl ⟨h0, rfl⟩)) (inn_ne h0)
    have e1 := hu c hc
    rw [← held_rest h2 m1, hang_rt] at m3
    obtain ⟨r', hr', _⟩ := m3
    obtain ⟨g1, g2, g3⟩ := hr'
    rw [List.length_set] at g1
    have hrc : r' ≠ c := fun z => by
      rw [z, getD_set h2, if_pos rfl] at g2
      exact m1 g2.symm
    rw [getD_set h2, if_neg hrc] at g2
    have : Rt L cs (cs.getD c 0) r' := by
      refine ⟨g1, g2, ?_⟩
      rcases g3 with g3 | g3
      · exact .inl g3
      · rw [getD_set h2] at g3
        by_cases e : innF L r' = c
        · exfalso
          by_cases hr0 : r' = 0
          · rw [hr0] at e
            have h9 : innF L 0 = 0 := by unfold innF; simp
            rw [h9] at e
            exact hrc (by rw [hr0]; exact e)
          · exact hno' r' ((mem_near hL (by omega) (by omega)).mpr (.inr ⟨hr0, e.symm⟩)) hrc g2
        · rw [if_neg e] at g3
          exact .inr g3
    have e2 := hu r' this
    exact hrc (e2.trans e1.symm)
  · show hangF L ((heldF (cs.set c l) ((cs.set c l).getD c 0)).filter fun o => o != c) = true
    rw [← held_rest (by rw [List.length_set]; exact h2) (by rw [getD_set h2, if_pos rfl]; exact m1.symm)]
    rw [getD_set h2, if_pos rfl]
    have : (cs.set c l).set c (cs.getD c 0) = cs := by
      rw [List.set_set]
      apply List.ext_getElem?
      intro j
      rw [List.getElem?_set]
      by_cases e : c = j
      · subst e
        rw [if_pos rfl, if_pos h2]
        exact (getD_get h2).symm
      · rw [if_neg e]
    rw [this]
    exact w.hang l h1
  · rw [List.set_set]
    apply List.ext_getElem?
    intro j
    rw [List.getElem?_set]
    by_cases e : c = j
    · subst e
      rw [if_pos rfl, if_pos h2]
      exact (getD_get h2).symm
    · rw [if_neg e]
end SL

set_option maxHeartbeats 4000000
/-! the law: alike, island, walk -/
namespace SL
open PySem PySem.Spec PyProof.Rows L2 GxR GX StX

section
variable {X : Cx} {σ : L2.St} {H : Hp} {a b : Expr} {pos p p2 p3 pt : Pos} {kt : Nat} {d : Dat} {q r : Bool}
/-- isinstance(x, (tuple, list)) -/
theorem v_isi2 (B : Bt X.mg) (h : EV X σ H a (isd X d)) (hk : PySem.W.kitAny X.K (.type d.ty) [.type "tuple", .type "list"] = some q) (hg : Gl X "isinstance" := by rfl) (hg1 : Gl X "tuple" := by rfl) (hg2 : Gl X "list" := by rfl)
    (he : starEach [a, .Tuple [.Name "tuple" p2, .Name "list" p3] kt pt] X.env = (false, eval a X.env) :: starEach [.Tuple [.Name "tuple" p2, .Name "list" p3] kt pt] X.env := by rfl)
    (he2 : starEach [.Tuple [.Name "tuple" p2, .Name "list" p3] kt pt] X.env = (false, eval (.Tuple [.Name "tuple" p2, .Name "list" p3] kt pt) X.env) :: starEach [] X.env := by rfl)
    (he3 : starEach [.Name "tuple" p2, .Name "list" p3] X.env = (false, eval (.Name "tuple" p2) X.env) :: starEach [.Name "list" p3] X.env := by rfl) (he4 : starEach [.Name "list" p3] X.env = (false, eval (.Name "list" p3) X.env) :: starEach [] X.env := by rfl)
    (hpl : (backTo pos (starEach [.Tuple [.Name "tuple" p2, .Name "list" p3] kt pt] X.env)).any (·.1) = false := by rfl) :
    EV X σ H (.Call (.Name "isinstance" p) [a, .Tuple [.Name "tuple" p2, .Name "list" p3] kt pt] [] pos) (isd X (.bl q)) :=
  EV.by (pe_callB call_isiT hg B.isin boot_isinstance (pa_cons pwe (pa_cons (pe_tup (pa_cons (pe_bltn hg1 B.tuple boot_tuple (show RelV (.ty "tuple") _ from rfl) (by decide) (by decide)) (pa_cons (pe_bltn hg2 B.list boot_list (show RelV (.ty "list") _ from rfl) (by decide) (by decide)) pa_nil he4) he3)) pa_nil he2) he) (by decide) (by decide) he hpl) fun H1 e1 Q k =>
    h H1 e1 _ fun v H2 e2 r => ⟨by simp [sizeLine_eq], fun l hl => ⟨v, l, [.ty "tuple", .ty "list"], .type d.ty, [.type "tuple", .type "list"], q, rfl, upd_same, .cons (.ty _) (.cons (.ty _) .nil), td_ty (TD.mono r (Ext.new hl).tk), hk, k _ _ (e2.trans (Ext.new hl)) (.bl q)⟩⟩
theorem t_neB (ha : EV X σ H a (isd X (.bl q))) (hb : EV X σ H b (isd X (.bl q))) : ET X σ H (.Compare a [.NotEq] [b] pos) false :=
  et_cmp op_ne ha hb (fun _ _ _ x y _ _ _ r1 r2 Q k => by
    rw [bl_inv r1, bl_inv r2]
    refine ⟨rfl, ?_⟩
    simpa using k) (nomark _)
theorem v_eqB (ha : EV X σ H a (isd X (.bl q))) (hb : EV X σ H b (isd X (.bl q))) : EV X σ H (.Compare a [.Eq] [b] pos) (isd X (.bl true)) :=
  v_cmp op_eq ha hb (fun _ _ _ x y _ _ _ r1 r2 Q k => by
    rw [bl_inv r1, bl_inv r2]
    refine ⟨rfl, ?_⟩
    simpa using k) (nomark _)
end
section
variable {P : Program} {w : World} {K : PySem.W.Frag} {mg : Str → Option Value} {base : Heap}
def alike0S (as : List AD) (r : AD) : Prop := ∃ x : Dat, as = [.d x, .d x] ∧ (x = .non ∨ ∃ n : Nat, x = nd n) ∧ r = .d (.bl true)
theorem ok_law_alike0 {f : Addr} {fd : FuncData} {T : List Addr} (F : Fun K "_law_alike" "_law_alike" t_law_alike f fd) (B : Bt mg) : Ok0 P w K mg base 1 f fd p_law_alike T alike0S := by
  refine okR F sc_law_alike (fun as r h => ?_) (fun cdv Ar outer s H vs Q E as r hcd hr hT ha hs hq => ?_)
  · obtain ⟨x, rfl, _⟩ := h
    rfl
  · obtain ⟨x, rfl, hx, rfl⟩ := hs
    have nd := sc_law_alike.nd
    have hu64 : (Ar.deeper (envOfC "_law_alike" (defScope t_law_alike) s.heap.objs.size f cdv)).units + 64 < cLine := by have := hr.un; omega
    obtain ⟨a, b, rfl, a1, a2⟩ := arsd2 ha
    rcases hx with rfl | ⟨n, rfl⟩
    · refine b_if (q := false) (t_b (v_isi2 B (v_n 1 rfl a2) (by rfl))) (fun hz H1 e1 => by cases hz) (fun hz H1 e1 => b_nil ?_)
      refine b_if (q := true) (t_w (w_or (q := true) (r := false) ((t_isn (v_n 1 rfl (a2.mono e1.tk))).to rfl) fun h => by cases h)) (fun hz H2 e2 => ?_) (fun hz H2 e2 => by cases hz)
      have m1 := a1.mono (e1.trans e2).tk
      have m2 := a2.mono (e1.trans e2).tk
      exact b_retd (v_and (q := true) (r := true) ((v_eqD hu64 (v_n 0 rfl m1) (v_n 1 rfl m2) (by decide) (by decide)).to (by rfl)) fun _ => v_and1 (v_eqB (q := false) (v_isi B.isin B.str boot_str (v_n 0 rfl m1) (by rfl)) (v_isi B.isin B.str boot_str (v_n 1 rfl m2) (by rfl)))) fun v H' e r => hq v H' ((e1.trans e2).trans e) r
    · refine b_if (q := false) (t_b (v_isi2 B (v_n 1 rfl a2) (by rfl))) (fun hz H1 e1 => by cases hz) (fun hz H1 e1 => b_nil ?_)
      refine b_if (q := false) (t_w (w_or (q := false) (r := false) ((t_isn (v_n 1 rfl (a2.mono e1.tk))).to rfl) fun _ => w_or1 (t_b (v_isi B.isin B.str boot_str (v_n 1 rfl (a2.mono e1.tk)) (by rfl))))) (fun hz H2 e2 => by cases hz) (fun hz H2 e2 => b_nil ?_)
      have m1 := a1.mono (e1.trans e2).tk
      have m2 := a2.mono (e1.trans e2).tk
      exact b_retd (v_and (q := true) (r := true) (v_isi B.isin B.int boot_int (v_n 0 rfl m1) (by rfl)) fun _ => v_and (q := true) (r := true) (v_eqB (q := false) (v_isi B.isin B.bool boot_bool (v_n 0 rfl m1) (by rfl)) (v_isi B.isin B.bool boot_bool (v_n 1 rfl m2) (by rfl))) fun _ => v_and1 ((v_eqn (v_n 0 rfl m1) (v_n 1 rfl m2)).to (by simp))) fun v H' e r => hq v H' ((e1.trans e2).trans e) r
def alike1S (as : List AD) (r : AD) : Prop := ∃ l : List Nat, as = [.d (lnd l), .d (lnd l)] ∧ l.length ≤ 16777216 ∧ r = .d (.bl true)
theorem ok_law_alike1 {f : Addr} {fd : FuncData} {T : List Addr} (F : Fun K "_law_alike" "_law_alike" t_law_alike f fd) (B : Bt mg) (A0 : Clb P w K mg base 1 "_law_alike" (spR K T alike0S)) : Ok0 P w K mg base 2 f fd p_law_alike T alike1S := by
  refine okR F sc_law_alike (fun as r h => ?_) (fun cdv Ar outer s H vs Q E as r hcd hr hT ha hs hq => ?_)
  · obtain ⟨x, rfl, _⟩ := h
    rfl
  · obtain ⟨l, rfl, hl, rfl⟩ := hs
    have nd := sc_law_alike.nd
    have hu64 : (Ar.deeper (envOfC "_law_alike" (defScope t_law_alike) s.heap.objs.size f cdv)).units + 64 < cLine := by have := hr.un; omega
    obtain ⟨a, b, rfl, a1, a2⟩ := arsd2 ha
    refine b_if (q := true) (t_b (v_isi2 B (v_n 1 rfl a2) (by rfl))) (fun hz H1 e1 => ?_) (fun hz H1 e1 => by cases hz)
    refine b_if (q := false) (t_w (w_or (q := false) (r := false) ((t_not (t_b (v_isi2 B (q := true) (v_n 0 rfl (a1.mono e1.tk)) (by rfl)))).to rfl) fun _ => w_or1 (t_neB (q := false) (v_isi B.isin B.list boot_list (v_n 0 rfl (a1.mono e1.tk)) (by rfl)) (v_isi B.isin B.list boot_list (v_n 1 rfl (a2.mono e1.tk)) (by rfl))))) (fun hz H2 e2 => by cases hz) (fun hz H2 e2 => b_nil ?_)
    have e12 := e1.trans e2
    refine b_if (q := false) ((t_nen (m := l.length) (n := l.length) ((v_lenT B.len (v_n 0 rfl (a1.mono e12.tk))).to (by rw [len_nd]; rfl)) ((v_lenT B.len (v_n 1 rfl (a2.mono e12.tk))).to (by rw [len_nd]; rfl))).to (by simp)) (fun hz H3 e3 => by cases hz) (fun hz H3 e3 => b_nil ?_)
    have e13 := e12.trans e3
    refine b_retd ((v_eqL (ds := ((List.range l.length).filter fun _ => false).map SL.nd) hu64 (EV.rd (v_lcR 2 (m := l.length) (q := fun _ => false) (gd := SL.nd) ((v_lenT B.len (v_n 1 rfl (a2.mono e13.tk))).to (by rw [len_nd]; rfl)) hl B.range (fun i H' hi e' s' H0 C cl fp => ⟨c_one ((t_not (t_b (v_cl A0 hr (hT.ext (e13.trans e')) (a_d (v_ixT (n := i) (v_n 0 rfl (a1.mono (e13.trans e').tk)) (v_n 2 rfl (.int _)) (map_get (getD_get hi))) (a_d (v_ixT (n := i) (v_n 1 rfl (a2.mono (e13.trans e').tk)) (v_n 2 rfl (.int _)) (map_get (getD_get hi))) a_nil)) ⟨_, rfl, .inr ⟨_, rfl⟩, rfl⟩))).to rfl), fun h => by cases h⟩))) (by rw [deps_nd]; omega)).to ?_) fun v H' e r => hq v H' (e13.trans e) r
    have : (List.range l.length).filter (fun _ => false) = [] := List.filter_eq_nil_iff.mpr fun _ _ => by simp
    rw [this]
    rfl

def spIsl (K : PySem.W.Frag) : Sp := fun vs H Q _ => ∃ (p sc : Addr), vs = [.ref p, nv 3] ∧ RowAt K H p sc ∧ ∀ (A L k : Nat) (v : V) (H' : Hp), 3 ≤ A → A ≤ 4 → 1 ≤ L → L ≤ 3 → 2 ≤ k → k ≤ L + 1 → ExtR p H H' → RowAt K H' p sc → TD K H' v (.tup [nd A, nd L, nd k]) → Q v H'
theorem ok_law_island {f : Addr} {fd : FuncData} (F : Fun K "_law_island" "_law_island" t_law_island f fd) (Tk' : Clb P w K mg base 1 "_law_taken" (spTaken K)) : FnOk P w K mg base CX0 2 f fd p_law_island (spIsl K) := by
  refine okW F sc_law_island (fun vs H Q E h => ?_) (fun cdv Ar outer s H vs Q E hcd hr h => ?_)
  · obtain ⟨p, sc, rfl, _⟩ := h
    rfl
  · obtain ⟨p, sc, rfl, hrow, hQ⟩ := h
    have nd := sc_law_island.nd
    refine b_setW 2 (WE.of (pe_op op_add pe_int pwe) (we_taken Tk' hr hrow (v_r 0 rfl) (v_n (d := SL.nd 3) 1 rfl (.int _)) (by omega) (by omega) fun r H1 hr1 x1 hrow1 => ⟨1, r, rfl, rfl, ?_⟩))
    have hL : V.int ((1 : Int) + (r : Int)) = nv (1 + r) := by simp [nv]
    show WB _ _ _ (List.set _ 2 (some (V.int ((1 : Int) + (r : Int))))) H1
    rw [hL]
    refine b_cons (WS.of (ps_ret (pe_tup (pa_cons (pe_op op_add pe_int pwe) (pa_cons pwe (pa_cons (pe_op op_add pe_int pwe) pa_nil))))) ?_)
    refine we_taken Tk' hr hrow1 (v_r 0 rfl) (v_num (n := 2)) (by omega) (by omega) fun r2 H2 hr2 x2 hrow2 => ⟨3, r2, rfl, rfl, ?_⟩
    refine (v_r 2 rfl : EV _ _ H2 _ (isr (nv (1 + r)))) H2 (Ext.refl _) _ fun u H3 e3 ru => ?_
    refine we_taken Tk' hr (hrow2.ext e3) (v_r 0 rfl) (v_n (d := SL.nd (1 + r)) 2 rfl (.int _)) (by omega) (by omega) fun r3 H4 hr3 x4 hrow4 => ⟨2, r3, rfl, rfl, ?_⟩
    refine ⟨by simp [sizeLine_eq], fun l hl => ?_⟩
    have x14 : ExtR p H H4 := (x1.trans x2).trans ((e3.r p).trans x4)
    refine hQ (3 + r2) (1 + r) (2 + r3) (.ref l) _ (by omega) (by omega) (by omega) (by omega) (by omega) (by omega) (x14.trans ((Ext.new hl).r p)) (hrow4.ext (Ext.new hl)) (.tup (SqT.of upd_same) ?_)
    rw [show u = nv (1 + r) from ru]
    refine .cons ?_ (.cons (.int _) (.cons ?_ .nil))
    · have : (3 : Int) + (r2 : Int) = ((3 + r2 : Nat) : Int) := by omega
      show TD K _ (.int ((3 : Int) + (r2 : Int))) _
      rw [this]
      exact .int _
    · have : (2 : Int) + (r3 : Int) = ((2 + r3 : Nat) : Int) := by omega
      show TD K _ (.int ((2 : Int) + (r3 : Int))) _
      rw [this]
      exact .int _
end
end SL

set_option maxHeartbeats 4000000
/-! the law: walk -/
namespace SL
open PySem PySem.Spec PyProof.Rows L2 GxR GX StX

section
variable {X : Cx} {σ : L2.St} {H : Hp} {D : Ends} {rest : List Stmt} {e : Expr} {p1 p2 p3 p4 : Pos} {x : Str}
/-- xs.append(e), e any reading -/
theorem b_appW (i : Nat) {q : Addr} {xs : List V} (hσ : σ[i]? = some (some (.ref q))) (hq : H q = some (.lst xs)) (he : WE X e σ H fun v H' => H' q = some (.lst xs) ∧ xs.length < sizeLine ∧ WB X rest D σ (upd H' q (.lst (xs ++ [v]))))
    (hN : X.N[i]? = some x := by rfl) (hv : Vis X.env.scope x := by first | exact Or.inl rfl | exact Or.inr (Or.inl rfl) | exact Or.inr (Or.inr rfl)) (hd : (x == ("__debug__" : Str)) = false := by decide) (hcd : (x == ("__classdict__" : Str)) = false := by decide)
    (hbase : attributeBase (.Name x p1) "append" X.env (eval (.Name x p1) X.env) = eval (.Name x p1) X.env := by rfl)
    (hfew : ((backTo p3 (starEach (e :: []) X.env)).all (fun x => !x.1) && (backToKw p3 (keywordEach [] X.env)).all (fun x => x.1.isSome)
      && decide ((e :: []).length + ([] : List Keyword).length + (if ([] : List Keyword).isEmpty then 0 else 1) < 30)) = true := by rfl)
    (hline : (p2.endLine == p3.line) = true := by rfl) (hs : starEach (e :: []) X.env = (false, eval e X.env) :: starEach [] X.env := by rfl) (hplain : (backTo p3 (starEach [] X.env)).any (·.1) = false := by rfl)
    (hsw : swapsWith (.Call (.Attribute (.Name x p1) "append" p2) [e] [] p3) none p4.line X.env = pure false := by rfl) :
    WB X (.Expr (.Call (.Attribute (.Name x p1) "append" p2) [e] [] p3) p4 :: rest) D σ H :=
  b_cons (WS.of (ps_expr (pe_bm PySem.F.plainAttrs_list PySem.F.slot_list_append PySem.F.type_list_append mt_append (pe_var hN hv hd hcd) (pa_cons pwe pa_nil hs) hbase hfew hline hs hplain) hsw)
    ⟨.ref q, hσ, .inl ⟨rfl, _, SqL.of hq⟩, fun pins s I => wpAny_mono (he pins s I) (fun u s' ⟨v, H', I', r, h1, h2, h3⟩ => ⟨v, H', I', r, q, xs, v, rfl, rfl, h1, h2, h3⟩) fun _ _ z => z⟩)
end
section
variable {P : Program} {w : World} {K : PySem.W.Frag} {mg : Str → Option Value} {base : Heap}
def spWalk (K : PySem.W.Frag) (T : List Addr) : Sp := fun vs H Q _ => ∃ (p sc : Addr) (A L k m : Nat) (cs : List Nat) (vc : V), vs = [.ref p, vc, nv m] ∧ Tabs T H ∧ TD K H vc (chd (A, cs)) ∧ Wf A L k cs ∧ m ≤ 1000 ∧ RowAt K H p sc ∧
  ∀ (cs' : List Nat) (ds : List Dat) (v : V) (H' : Hp), Wf A L k cs' → ExtR p H H' → RowAt K H' p sc → TD K H' v (.tup [.tup ds, chd (A, cs')]) → Q v H'
theorem ok_law_walk {f : Addr} {fd : FuncData} {T : List Addr} (F : Fun K "_law_walk" "_law_walk" t_law_walk f fd) (B : Bt mg) (Pk : Clb P w K mg base 2 "_law_pick" (spPick K)) (At : Clb P w K mg base 3 "_law_takings" (spR K T lallS)) (Bh : Clb P w K mg base 1 "_law_behind" (spR K T tknS)) :
    FnOk P w K mg base CX0 4 f fd p_law_walk (spWalk K T) := by
  refine okW F sc_law_walk (fun vs H Q E h => ?_) (fun cdv Ar outer s H vs Q E hcd hr h => ?_)
  · obtain ⟨p, sc, A, L, k, m, cs, vc, rfl, _⟩ := h
    rfl
  · obtain ⟨p, sc, A, L, k, m, cs, vc, rfl, hT, hvc, W, hm, hrow, hQ⟩ := h
    have nd := sc_law_walk.nd
    have hu64 : (Ar.deeper (envOfC "_law_walk" (defScope t_law_walk) s.heap.objs.size f cdv)).units + 64 < cLine := by have := hr.un; omega
    obtain ⟨ys0, hp0⟩ := hrow.lst
    refine b_set 3 (v_lst (ds := []) a_nil (Nat.zero_le _)) fun v H1 e1 ⟨ps, xs, hv, hs0, hs1, hs2⟩ => ?_
    subst hv
    have hsp : ps ≠ p := fun z => by
      rw [z, hp0] at hs0
      cases hs0
    refine b_forR 4 (m := m) (v_n 2 rfl (.int _)) (by omega) (fun i σ' H' => ∃ (cs : List Nat) (vc : V) (xs : List V) (ds : List Dat) (o4 o5 : Option V), σ' = [some (.ref p), some vc, some (nv m), some (.ref ps), o4, o5] ∧ ExtR p H H' ∧ RowAt K H' p sc ∧ TD K H' vc (chd (A, cs)) ∧ Wf A L k cs ∧ H' ps = some (.lst xs) ∧ TDs K H' xs ds ∧ ds.length ≤ i)
      (fun H2 e2 => ⟨cs, vc, xs, [], none, none, rfl, (e1.trans e2).r p, hrow.ext (e1.trans e2), hvc.mono (e1.trans e2).tk, W, e2.lst hs1, hs2.mono e2.tk, Nat.le_refl _⟩) ?_ ?_ B.range
    · rintro i σ' H2 hi ⟨cs, vc, xs, ds, o4, o5, rfl, x2, hrow2, hvc2, W, hs2, hd2, hl2⟩
      refine b_set 5 (v_clL At hr (x2.tabs hT) (a_d (v_n 1 rfl hvc2) a_nil) ⟨A, L, k, cs, rfl, W, rfl⟩) fun v H3 e3 ⟨pk, zs, hv, hk0, hk1, hk2⟩ => ?_
      subst hv
      have hkl := tak_len (A := A) (L := L) (k := k) (cs := cs) k
      have hkl : (takF A L k cs).length ≤ k * cs.length := hkl
      have hkb : k * cs.length ≤ 4 * 13 := Nat.mul_le_mul (by have := W.kL; have := W.L3; omega) (by have := W.len; have := W.AL; omega)
      refine b_if (q := !((takF A L k cs).map tkd).isEmpty) (t_neL hu64 (v_l 5 rfl (SqL.of hk1) hk2) (by have := deps_tkd (takF A L k cs); omega)) (fun hz H4 e4 => ?_) (fun hz H4 e4 => ?_)
      · have hne : takF A L k cs ≠ [] := by
          intro z
          rw [z] at hz
          cases hz
        have e34 := e3.trans e4
        obtain ⟨ys2, hp2⟩ := hrow2.lst
        have hkp : pk ≠ p := fun z => by
          rw [z, hp2] at hk0
          cases hk0
        refine b_appW 3 rfl (e34.lst hs2) (we_pick Pk hr (hrow2.ext e34) (v_r 0 rfl) (v_r 5 rfl) (e4.lst hk1) hkp (hk2.mono e4.tk) (by rw [List.length_map]; exact List.length_pos_iff.mpr hne) (by rw [List.length_map]; omega) fun j d v H5 hd x5 hrow5 hv => ?_)
        obtain ⟨t, ht, rfl⟩ : ∃ t, (takF A L k cs)[j]? = some t ∧ d = tkd t := by
          rw [List.getElem?_map] at hd
          cases e : (takF A L k cs)[j]? with
          | none => rw [e] at hd; cases hd
          | some n => rw [e] at hd; exact ⟨n, rfl, (Option.some.inj hd).symm⟩
        have htm : t ∈ takF A L k cs := List.mem_of_getElem? ht
        have hlt := tak_lt htm
        have hp4 := e34.lst hp2
        have tk5 := x5.tk hp4
        have hs5 := x5.lst (e34.lst hs2) hsp
        refine ⟨hs5, by rw [hd2.length, sizeLine_eq]; omega, ?_⟩
        have t6 : Tk H5 (upd H5 ps (.lst (xs ++ [v]))) := Tk.mutL hs5
        have x6 : ExtR p H (upd H5 ps (.lst (xs ++ [v]))) := ((x2.trans (e34.r p)).trans x5).mut hs0
        have hrow6 : RowAt K (upd H5 ps (.lst (xs ++ [v]))) p sc := hrow.upd hs0 hrow5
        have hd6 : TDs K (upd H5 ps (.lst (xs ++ [v]))) (xs ++ [v]) (ds ++ [tkd t]) := ((hd2.mono ((e34.tk.trans tk5).trans t6))).append (.cons (hv.mono t6) .nil)
        have hvc6 := hvc2.mono ((e34.tk.trans tk5).trans t6)
        have hs6 : (upd H5 ps (.lst (xs ++ [v]))) ps = some (.lst (xs ++ [v])) := upd_same
        generalize upd H5 ps (.lst (xs ++ [v])) = H6 at x6 hrow6 hd6 hvc6 hs6
        have Wl := W.len
        have WA := W.AL
        refine b_set 1 (v_cl Bh hr (x6.tabs hT) (a_d (v_n 1 rfl hvc6) (a_d (v_ixE (ds' := ds) (d := tkd t) (v_l 3 rfl (SqL.of hs6) hd6) v_neg1 rfl) a_nil)) ⟨A, cs, t.1, t.2, rfl, hlt.1, by omega, rfl⟩) fun u H7 e7 r7 => b_nil (b_nil ?_)
        exact ⟨cs.set t.2 t.1, u, xs ++ [v], ds ++ [tkd t], _, _, rfl, x6.trans (e7.r p), hrow6.ext e7, r7, W.take htm, e7.lst hs6, hd6.mono e7.tk, by rw [List.length_append, List.length_singleton]; omega⟩
      · have e34 := e3.trans e4
        exact b_nil (b_nil ⟨cs, vc, xs, ds, _, _, rfl, x2.trans (e34.r p), hrow2.ext e34, hvc2.mono e34.tk, W, e34.lst hs2, hd2.mono e34.tk, by omega⟩)
    · rintro σ' H2 ⟨cs, vc, xs, ds, o4, o5, rfl, x2, hrow2, hvc2, W, hs2, hd2, hl2⟩
      refine b_ret (v_tup (ds := [.tup ds, chd (A, cs)]) (a_d (v_toTup B.tuple (v_l 3 rfl (SqL.of hs2) hd2)) (a_d (v_n 1 rfl hvc2) a_nil)) (by simp [sizeLine_eq])) fun v H3 e3 rv => hQ cs ds v H3 W (x2.trans (e3.r p)) (hrow2.ext e3) rv
end
end SL

/-! plain: the least labels' first numbers are few -/
namespace SL
section
variable {α : Type} [DecidableEq α] {out : α → List (α × Nat)} {s : α} {R : List (α × Lab)}
theorem levels (g : Good out s R) (c : ∀ m, Closed out R m) (hw : ∀ m e, e ∈ out m → e.2 ≤ 1) {m : α} {v : Lab} (h : Way out s m v) : ∀ u, getB R m = some u → ∀ j, j ≤ u.1 → ∃ x ux, getB R x = some ux ∧ ux.1 = j := by
  induction h with
  | refl =>
    intro u hu j hj
    rw [g.st] at hu
    cases hu
    exact ⟨s, (0, 0), g.st, by simp at hj; exact hj.symm⟩
  | @step m m' t n w h1 h2 ih =>
    intro u hu j hj
    obtain ⟨um, hm, _⟩ := g.least c h1
    have hb := c m um hm (m', w) h2
    have hw1 := hw m (m', w) h2
    unfold betterB at hb
    rw [hu] at hb
    have hb : ltL (part um w) u = false := hb
    rw [ltL_not] at hb
    simp only [part] at hb
    simp only at hw1
    by_cases hj2 : j ≤ um.1
    · exact ih um hm j hj2
    · exact ⟨m', u, hu, by omega⟩
theorem turns_few (g : Good out s R) (c : ∀ m, Closed out R m) (hw : ∀ m e, e ∈ out m → e.2 ≤ 1) {q : α × Lab} (hq : q ∈ R) : q.2.1 + 1 ≤ R.length := by
  have h1 := getB_of_mem g.nd hq
  have h2 := levels g c hw (g.snd _ _ h1) q.2 h1
  have := nodup_len (F := List.range (q.2.1 + 1)) (S := R.map fun p => p.2.1) List.nodup_range fun j hj => by
    have hj := List.mem_range.mp hj
    obtain ⟨x, ux, e1, e2⟩ := h2 j (by omega)
    have : x ∈ keysB R := mem_keys.mpr (by rw [e1]; rfl)
    obtain ⟨p, hp, ep⟩ := List.mem_map.mp this
    have h3 := getB_of_mem g.nd hp
    rw [ep, e1] at h3
    refine List.mem_map.mpr ⟨p, hp, ?_⟩
    rw [← Option.some.inj h3]
    exact e2
  rw [List.length_range, List.length_map] at this
  exact this
end
end SL

set_option maxHeartbeats 8000000
/-! the law -/
namespace SL
open PySem PySem.Spec PyProof.Rows L2 GxR GX StX

/-- what the mathematics gives -/
structure Facts : Prop where
  gw : ∀ {A L k : Nat} {cs : List Nat}, Wf A L k cs → ∃ U, GrW A L k (A, cs) U
  key : ∀ {A L k : Nat} {cs cs2 : List Nat} {R : List (Map × Lab)}, Wf A L k cs → Wf A L k cs2 → Good (outM A L k) (A, cs) R → (∀ m, Closed (outM A L k) R m) → eqD (keyD A L k cs) (keyD A L k cs2) = (getB R (A, cs2)).isSome
section
variable {X : Cx} {σ : L2.St} {H : Hp} {a b e : Expr} {pos p p1 p2 : Pos} {D : Ends} {rest : List Stmt} {x y z : Str}
theorem b_unp3W (i j l : Nat) {px py pz pt : Pos} {kt} (he : WE X e σ H fun v H' => ∃ q u1 u2 u3, v = .ref q ∧ SqT X.K H' q [u1, u2, u3] ∧ WB X rest D (((σ.set i (some u1)).set j (some u2)).set l (some u3)) H')
    (hc : X.calm = true := by rfl) (hN : X.N.Nodup := by assumption) (hi : X.N[i]? = some x := by rfl) (hj : X.N[j]? = some y := by rfl) (hl : X.N[l]? = some z := by rfl) (hx : Loc X.env.scope x := by first | exact Or.inl rfl | exact Or.inr rfl) (hy : Loc X.env.scope y := by first | exact Or.inl rfl | exact Or.inr rfl) (hz : Loc X.env.scope z := by first | exact Or.inl rfl | exact Or.inr rfl)
    (hfx : X.fn x = true ∨ X.env.scope.names.lookup x = some .local := by first | exact .inl rfl | exact .inr rfl) (hfy : X.fn y = true ∨ X.env.scope.names.lookup y = some .local := by first | exact .inl rfl | exact .inr rfl) (hfz : X.fn z = true ∨ X.env.scope.names.lookup z = some .local := by first | exact .inl rfl | exact .inr rfl)
    (hn1 : (assignEach [.Name x px, .Name y py, .Name z pz] X.env).map (·.2) = assign (.Name x px) X.env :: (assignEach [.Name y py, .Name z pz] X.env).map (·.2) := by rfl) (hn2 : (assignEach [.Name y py, .Name z pz] X.env).map (·.2) = assign (.Name y py) X.env :: (assignEach [.Name z pz] X.env).map (·.2) := by rfl)
    (hn2' : (assignEach [.Name z pz] X.env).map (·.2) = assign (.Name z pz) X.env :: (assignEach [] X.env).map (·.2) := by rfl)
    (hn3 : (assignEach [.Name x px, .Name y py, .Name z pz] X.env).length = 3 := by rfl) (hn4 : (assignEach [.Name x px, .Name y py, .Name z pz] X.env).findIdx? (·.1) = none := by rfl)
    (hs : swapsWithSole [.Tuple [.Name x px, .Name y py, .Name z pz] kt pt] e pos.line X.env = pure false := by rfl)
    (hw : swappedStores [.Tuple [.Name x px, .Name y py, .Name z pz] kt pt] e X.env = pure none := by rfl)
    (h1 : (assignEach [.Tuple [.Name x px, .Name y py, .Name z pz] kt pt] X.env).map (·.2) = [assign (.Tuple [.Name x px, .Name y py, .Name z pz] kt pt) X.env] := by rfl) :
    WB X (.Assign [.Tuple [.Name x px, .Name y py, .Name z pz] kt pt] e pos :: rest) D σ H :=
  b_cons (WS.of (ps_asg pwe (pg_tup hc (pgs_cons (pg_name hN hi hx hfx) (pgs_cons (pg_name hN hj hy hfy) (pgs_cons (pg_name hN hl hz hfz) pgs_nil hn2') hn2) hn1) hn3 hn4) hs hw h1) (fun pins s I =>
    wpAny_mono (he pins s I) (fun u s' ⟨v, H', I', r, q, u1, u2, u3, e1, h2, h3⟩ => ⟨v, H', I', r, q, [u1, u2, u3], e1, h2, rfl, u1, _, rfl, u2, _, rfl, u3, _, rfl, rfl, h3⟩) fun _ _ z => z))
/-- found[there], flag = part, True -/
theorem b_putM2 {β : Type} {val : β → Dat} {F : List (Map × β)} {d : Addr} {m : Map} {o i : Expr} {v : β} {p3 py pt : Pos} {kt k2 pt2} (jx : Nat) (hu : X.A.units + 20 < cLine) (ha : EV X σ H a (isd X (val v))) (hb : EV X σ H b (isd X (.bl true))) (ho : EV X σ H o (isr (.ref d))) (hi : EV X σ H i (isd X (chd m))) (hd : DV X.prog X.w X.K val H d F) (hl : F.length < sizeLine)
    (k : ∀ H1 ob, Ext H H1 → DV X.prog X.w X.K val (upd H1 d ob) d (putB F m v) → Tk H1 (upd H1 d ob) → (∃ f, ob = .ext f) → WB X rest D (σ.set jx (some (.bl true))) (upd H1 d ob))
    (hc : X.calm = true := by rfl) (hN : X.N.Nodup := by assumption) (hj : X.N[jx]? = some y := by rfl) (hy : Loc X.env.scope y := by first | exact Or.inl rfl | exact Or.inr rfl) (hfy : X.fn y = true ∨ X.env.scope.names.lookup y = some .local := by first | exact .inl rfl | exact .inr rfl)
    (hs1 : starEach [a, b] X.env = (false, eval a X.env) :: starEach [b] X.env := by rfl) (hs2 : starEach [b] X.env = (false, eval b X.env) :: starEach [] X.env := by rfl)
    (has : ∀ v, assign (.Subscript o i p3) X.env v = (do
      let ov ← holding [v] (eval o X.env)
      let iv ← holding [v, ov] (eval i X.env)
      standAt p3
      holding [v, ov, iv] (setItem ov iv v)
      release [v, ov, iv] []) := by intro _; rfl)
    (hn1 : (assignEach [.Subscript o i p3, .Name y py] X.env).map (·.2) = assign (.Subscript o i p3) X.env :: (assignEach [.Name y py] X.env).map (·.2) := by rfl) (hn2 : (assignEach [.Name y py] X.env).map (·.2) = assign (.Name y py) X.env :: (assignEach [] X.env).map (·.2) := by rfl)
    (hn3 : (assignEach [.Subscript o i p3, .Name y py] X.env).length = 2 := by rfl) (hn4 : (assignEach [.Subscript o i p3, .Name y py] X.env).findIdx? (·.1) = none := by rfl)
    (hs : swapsWithSole [.Tuple [.Subscript o i p3, .Name y py] kt pt] (.Tuple [a, b] k2 pt2) pos.line X.env = pure false := by rfl)
    (hw : swappedStores [.Tuple [.Subscript o i p3, .Name y py] kt pt] (.Tuple [a, b] k2 pt2) X.env = pure none := by rfl)
    (h1 : (assignEach [.Tuple [.Subscript o i p3, .Name y py] kt pt] X.env).map (·.2) = [assign (.Tuple [.Subscript o i p3, .Name y py] kt pt) X.env] := by rfl) :
    WB X (.Assign [.Tuple [.Subscript o i p3, .Name y py] kt pt] (.Tuple [a, b] k2 pt2) pos :: rest) D σ H :=
  b_cons (WS.of (ps_asg (pe_tup (pa_cons pwe (pa_cons pwe pa_nil hs2) hs1)) (pg_tup hc (pgs_cons (pg_sub pwe pwe (set_putM hu) has) (pgs_cons (pg_name hN hj hy hfy) pgs_nil hn2) hn1) hn3 hn4) hs hw h1)
    (ha H (Ext.refl _) _ fun u H1 e1 r1 => hb H1 e1 _ fun u2 H2 e2 r2 => ⟨by simp [sizeLine_eq], fun p hp => ⟨p, [u, u2], rfl, SqT.of upd_same, rfl, u, [u2], rfl, by
      have e3 : Ext H2 (upd H2 p (.tup [u, u2])) := Ext.new hp
      refine ho _ ((e1.trans e2).trans e3) _ fun x H4 e4 r4 => hi H4 (((e1.trans e2).trans e3).trans e4) _ fun y H5 e5 r5 => ?_
      have e05 := (((e1.trans e2).trans e3).trans e4).trans e5
      obtain ⟨kvs, h1, h2⟩ := hd.ext e05
      have hlen : kvs.length = F.length := Paired.length h2
      refine ⟨d, kvs, m, r4, h1, r5, by rw [hlen]; exact hl, fun ob hob t hx => ⟨u2, [], rfl, ?_⟩⟩
      rw [bl_inv r2]
      exact ⟨rfl, k H5 ob e05 ⟨_, hob, Paired.mapP (pair_put h2 m (TD.mono r1 (((e2.trans e3).trans e4).trans e5).tk)) fun _ _ z => ⟨z.1, z.2.mono t⟩⟩ t hx⟩⟩⟩))
/-- found.get(other) -/
theorem v_getDot {F : List (Map × Lab)} {d : Addr} {m : Map} {apos cpos : Pos} (hu : X.A.units + 20 < cLine) (ha : EV X σ H a (isr (.ref d))) (hb : EV X σ H b (isd X (chd m))) (hd : DV X.prog X.w X.K tkd H d F) (mm : M1 X a "get" apos b cpos) : EV X σ H (.Call (.Attribute a "get" apos) [b] [] cpos) (isd X (labD2 (getB F m))) :=
  EV.by (pe_get1M hu pwe pwe mm) fun H1 e1 Q k => ha H1 e1 _ fun v H2 e2 r => by
    obtain ⟨kvs, h1, h2⟩ := hd.ext (e1.trans e2)
    refine ⟨d, kvs, r, h1, hb H2 (e1.trans e2) _ fun y H3 e3 r3 => ⟨m, r3, h1.ext e3, ?_⟩⟩
    rcases pair_get h2 m with ⟨u, b, g1, g2, g3⟩ | ⟨g1, g2⟩
    · rw [g1]
      refine k u H3 (e2.trans e3) ?_
      rw [g2]
      exact TD.mono g3 e3.tk
    · rw [g1]
      refine k .non H3 (e2.trans e3) ?_
      rw [g2]
      exact .non
/-- every map, sorted -/
def isev (X : Cx) (out : Map → List (Map × Nat)) (s : Map) : RV2 := fun H0 v H => ∃ p ys ns, v = .ref p ∧ H0 p = none ∧ H p = some (.lst ys) ∧ TDs X.K H ys (ns.map chd) ∧ FI out s ns (fun _ => False)
theorem FI.perm {α : Type} [DecidableEq α] {out : α → List (α × Nat)} {s : α} {l l' : List α} (f : FI out s l (fun _ => False)) (h : l'.Perm l) : FI out s l' (fun _ => False) :=
  ⟨h.nodup_iff.mpr f.nd, h.mem_iff.mpr f.st, fun m hm => f.snd m (h.mem_iff.mp hm), fun m hm hn e he => h.mem_iff.mpr (f.cl m (h.mem_iff.mp hm) hn e he)⟩
theorem v_every {T : List Addr} {A L k j : Nat} {cs : List Nat} {U : List Map} {p3 p4 p5 : Pos} (B : Bt X.mg) (Fr : Clb X.prog X.w X.K X.mg X.base 4 "_law_from" (spFrom X.prog X.w X.K T)) (hr : Room j X.A) (hu : X.A.units + 64 < cLine) (hT : Tabs T H) (ha : EV X σ H a (isd X (chd (A, cs)))) (W : Wf A L k cs) (G : GrW A L k (A, cs) U)
    (hk : 4 ≤ j := by decide) (hc : X.calm = true := by rfl) (hg1 : Gl X "sorted" := by rfl) (hg2 : Gl X "list" := by rfl) (hg3 : Gl X "_law_from" := by rfl)
    (s1 : starEach [.Call (.Name "list" p2) [.Call (.Name "_law_from" p3) [a] [] p4] [] p5] X.env = (false, eval (.Call (.Name "list" p2) [.Call (.Name "_law_from" p3) [a] [] p4] [] p5) X.env) :: starEach [] X.env := by rfl) (s2 : starEach [.Call (.Name "_law_from" p3) [a] [] p4] X.env = (false, eval (.Call (.Name "_law_from" p3) [a] [] p4) X.env) :: starEach [] X.env := by rfl)
    (s3 : starEach [a] X.env = (false, eval a X.env) :: starEach [] X.env := by rfl) (q1 : (backTo pos (starEach [] X.env)).any (·.1) = false := by rfl) (q2 : (backTo p5 (starEach [] X.env)).any (·.1) = false := by rfl) (q3 : (backTo p4 (starEach [] X.env)).any (·.1) = false := by rfl) :
    EV X σ H (.Call (.Name "sorted" p1) [.Call (.Name "list" p2) [.Call (.Name "_law_from" p3) [a] [] p4] [] p5] [] pos) (isev X (outM A L k) (A, cs)) :=
  EV.by (pe_callB (cr_sortM (Nat.lt_of_le_of_lt (Nat.add_le_add_left (by decide : 20 ≤ 64) _) hu)) hg1 B.sorted boot_sorted (pa_cons (pe_callTy (call_listM hc) hg2 B.list boot_list (pa_cons (pe_cl Fr hr (pa_cons pwe pa_nil s3) hk hg3 (by decide) s3 q3) pa_nil s2) (by decide) (by decide) s2 q2) pa_nil s1) (by decide) (by decide) s1 q1) fun H1 e1 Q kk =>
    ha H1 e1 _ fun v H2 e2 r => ⟨hT.ext (e1.trans e2), A, L, k, cs, U, v, rfl, r, W, G, fun d H3 F e3 hd0 hd fi => by
      obtain ⟨kvs, h1, h2⟩ := hd
      refine ⟨d, kvs, rfl, h1, fun l ys hl ht => ⟨l, ys, kvs.map (·.1), rfl, SqL.of upd_same, by rw [List.map_map]; exact (ht.mono (Ext.new hl).tk), fun p' ys' ns' hp hn hx => ?_⟩⟩
      have e4 : Ext H3 (upd H3 l (.lst ys)) := Ext.new hl
      refine kk _ _ (((e2.trans e3).trans e4).trans (Ext.new hn)) ⟨p', ys', ns', rfl, ((e2.trans e3).trans e4).free hn, upd_same, hx.mono (Ext.new hn).tk, ?_⟩
      have : kvs.map (·.1) = keysB F := pair_keys h2
      rw [this] at hp
      exact fi.perm hp⟩
end
end SL

set_option maxHeartbeats 8000000
/-! the law walked -/
namespace SL
open PySem PySem.Spec PyProof.Rows L2 GxR GX StX

theorem WE.nxt {X : Cx} {σ : L2.St} {H : Hp} {e : Expr} {Q1 Q : VK} (h : WE X e σ H Q1) (k : ∀ v H', Q1 v H' → Q v H') : WE X e σ H Q := fun pins s I => thn (h pins s I) fun u s' ⟨v, H', I', r, q⟩ => ⟨v, H', I', r, k v H' q⟩
theorem cnt_perm {l l' : List Nat} (h : l.Perm l') : cntF l = cntF l' := by
  have hm : maxl l = maxl l' := by
    by_cases h0 : l = []
    · subst h0
      rw [List.nil_perm.mp h]
    · have h0' : l' ≠ [] := fun z => h0 (by rw [z] at h; exact List.perm_nil.mp h)
      exact Nat.le_antisymm (maxl_le (h.mem_iff.mp (maxl_mem h0))) (maxl_le (h.mem_iff.mpr (maxl_mem h0')))
  unfold cntF
  rw [hm]
  refine List.map_congr_left fun i _ => ?_
  exact h.count_eq i
theorem cnt_len (l : List Nat) : (cntF l).length = maxl l + 1 := by simp [cntF]
def tlF (F : List (Map × Lab)) (ns : List Map) : List Nat := ns.map fun m => ((getB F m).getD (0, 0)).1
theorem tl_perm {F R : List (Map × Lab)} {ns : List Map} (hR : (keysB R).Nodup) (hn : ns.Nodup) (hm : ∀ m, m ∈ ns ↔ m ∈ keysB R) (he : ∀ m, getB F m = getB R m) : (tlF F ns).Perm (trnF R) := by
  have h1 : ns.Perm (keysB R) := (List.perm_ext_iff_of_nodup hn hR).mpr hm
  have h2 := h1.map fun m => ((getB F m).getD (0, 0)).1
  have h3 : (keysB R).map (fun m => ((getB F m).getD (0, 0)).1) = trnF R := by
    unfold keysB trnF
    rw [List.map_map]
    refine List.map_congr_left fun p hp => ?_
    show ((getB F p.1).getD (0, 0)).1 = p.2.1
    rw [he, getB_of_mem hR hp]
    rfl
  rw [h3] at h2
  exact h2
section
variable {P : Program} {w : World} {K : PySem.W.Frag} {mg : Str → Option Value} {base : Heap}
def spLaw (K : PySem.W.Frag) (T : List Addr) : Sp := fun vs H Q _ => ∃ (a : Addr) (ns : List Int), vs = [.ref a] ∧ SqL K H a (ns.map V.int) ∧ Tabs T H ∧ ∀ H', Q (.bl true) H'
theorem ok_law (M : Facts) {f : Addr} {fd : FuncData} {T : List Addr} (F : Fun K "law" "law" t_law f fd) (B : Bt mg) (Tk' : Clb P w K mg base 1 "_law_taken" (spTaken K)) (Isl : Clb P w K mg base 2 "_law_island" (spIsl K)) (Mp : Clb P w K mg base 3 "_law_map" (spMap K)) (Wk : Clb P w K mg base 4 "_law_walk" (spWalk K T))
    (Fr : Clb P w K mg base 4 "_law_from" (spFrom P w K T)) (At : Clb P w K mg base 3 "_law_takings" (spR K T lallS)) (Bh : Clb P w K mg base 1 "_law_behind" (spR K T tknS)) (Fw : Clb P w K mg base 8 "fewest_turns" (spR K T (fewS labD1))) (Tr : Clb P w K mg base 8 "turn_row" (spR K T (fewS labD2)))
    (Tc : Clb P w K mg base 7 "turn_counts" (spR K T cntS)) (A0 : Clb P w K mg base 1 "_law_alike" (spR K T alike0S)) (A1 : Clb P w K mg base 2 "_law_alike" (spR K T alike1S)) : FnOk P w K mg base CX0 9 f fd p_law (spLaw K T) := by
  refine okW F sc_law (fun vs H Q E h => ?_) (fun cdv Ar outer s H vs Q E hcd hr h => ?_)
  · obtain ⟨a, ns, rfl, _⟩ := h
    rfl
  · obtain ⟨sc, zs, rfl, hsc, hT, hQ⟩ := h
    have nd := sc_law.nd
    have hu64 : (Ar.deeper (envOfC "law" (defScope t_law) s.heap.objs.size f cdv)).units + 64 < cLine := by have := hr.un; omega
    have hu20 : (Ar.deeper (envOfC "law" (defScope t_law) s.heap.objs.size f cdv)).units + 20 < cLine := by have := hr.un; omega
    -- the row
    refine b_setW 1 (WE.of (pe_lst (pa_cons pwe (pa_cons pe_int (pa_cons pe_int (pa_cons pe_int pa_nil))))) ?_)
    refine (v_r 0 rfl : EV _ _ H _ (isr (.ref sc))) H (Ext.refl _) _ fun u H1 e1 ru => ⟨by simp [sizeLine_eq], fun p hp => ?_⟩
    rw [show u = .ref sc from ru]
    have e2 : Ext H1 (upd H1 p (.lst [.ref sc, .int 0, .int 13906, .int 0])) := Ext.new hp
    have hrow : RowAt K (upd H1 p (.lst [.ref sc, .int 0, .int 13906, .int 0])) p sc := ⟨zs, 0, 13906, 0, upd_same, (e1.trans e2).sql hsc⟩
    have hT2 := hT.ext (e1.trans e2)
    generalize upd H1 p (.lst [.ref sc, .int 0, .int 13906, .int 0]) = H2 at hrow hT2
    clear e2 hp
    -- the island
    refine b_unp3W 7 8 9 (WE.of (pe_cl Isl hr (pa_cons pwe (pa_cons pe_int pa_nil))) ?_)
    refine (v_r 1 rfl : EV _ _ H2 _ (isr (.ref p))) H2 (Ext.refl _) _ fun u H3 e3 ru => ⟨p, sc, by rw [show u = .ref p from ru]; rfl, hrow.ext e3, fun A L k v H4 hA3 hA4 hL1 hL3 hk2 hkL x4 hrow4 hv => ?_⟩
    obtain ⟨q, xs, rfl, hq1, hq2⟩ := tup_inv hv
    have hq2 := tds_int_inv (l := [A, L, k]) hq2
    subst hq2
    refine ⟨q, _, _, _, rfl, hq1, ?_⟩
    have hT4 := x4.tabs (hT2.ext e3)
    -- the first map
    refine b_setW 2 (WE.of (pe_cl Mp hr (pa_cons pwe (pa_cons pwe (pa_cons pwe (pa_cons pwe pa_nil))))) ?_)
    refine (v_r 1 rfl : EV _ _ H4 _ (isr (.ref p))) H4 (Ext.refl _) _ fun u1 H5 e5 r1 => ?_
    refine (v_r 7 rfl : EV _ _ H5 _ (isr (nv A))) H5 (Ext.refl _) _ fun u2 H6 e6 r2 => ?_
    refine (v_r 8 rfl : EV _ _ H6 _ (isr (nv L))) H6 (Ext.refl _) _ fun u3 H7 e7 r3 => ?_
    refine (v_r 9 rfl : EV _ _ H7 _ (isr (nv k))) H7 (Ext.refl _) _ fun u4 H8 e8 r4 => ?_
    have e48 := ((e5.trans e6).trans e7).trans e8
    refine ⟨p, sc, A, L, k, by rw [show u1 = .ref p from r1, show u2 = nv A from r2, show u3 = nv L from r3, show u4 = nv k from r4]; rfl, hA3, hA4, hL1, hL3, hk2, hkL, hrow4.ext e48, fun cs vc H9 W x9 hrow9 hvc => ?_⟩
    have hT9 := x9.tabs (hT4.ext e48)
    clear r1 r2 r3 r4 e48 e5 e6 e7 e8 x9 x4 e3 ru
    -- the other
    refine b_setW 3 (WE.nxt (Q1 := fun v H' => ∃ cs2, Wf A L k cs2 ∧ TD K H' v (chd (A, cs2)) ∧ ExtR p H9 H') (WE.of (pe_ifExp pwt pwe pwe) ?_) fun vo H10 ⟨cs2, W2, hvo, x10⟩ => ?_)
    · refine WT.of (pt_cmpR op_gt pwe pe_int (nomark _)) (we_taken Tk' hr hrow9 (v_r 1 rfl) (v_num (n := 3)) (by omega) (by omega) fun r H10 _ x10 hrow10 => ⟨r, 0, rfl, rfl, _, rfl, ?_⟩)
      obtain ⟨ys9, hp9⟩ := hrow9.lst
      have hvc10 := hvc.mono (x10.tk hp9)
      have hT10 := x10.tabs hT9
      cases hz : decide ((0 : Int) < (r : Int)) with
      | true =>
        refine WE.of (pe_ix ix_tup pwe pe_int (by intro _ _; rfl)) (WE.of (pe_cl Wk hr (pa_cons pwe (pa_cons pwe (pa_cons pwe pa_nil)))) ?_)
        refine (v_r 1 rfl : EV _ _ H10 _ (isr (.ref p))) H10 (Ext.refl _) _ fun u1 H11 e11 r1 => ?_
        refine (v_r 2 rfl : EV _ _ H11 _ (isr vc)) H11 (Ext.refl _) _ fun u2 H12 e12 r2 => ?_
        refine we_taken Tk' hr (hrow10.ext (e11.trans e12)) (v_r 1 rfl) (v_num (n := 12)) (by omega) (by omega) fun m H13 hm x13 hrow13 => ?_
        have x1013 := ((e11.trans e12).r p).trans x13
        obtain ⟨ys10, hp10⟩ := hrow10.lst
        refine ⟨p, sc, A, L, k, m, cs, vc, by rw [show u1 = .ref p from r1, show u2 = vc from r2]; rfl, x1013.tabs hT10, hvc10.mono (x1013.tk hp10), W, by omega, hrow13, fun cs' ds v H14 W' x14 hrow14 hv => ?_⟩
        obtain ⟨q2, xs2, rfl, g1, g2⟩ := tup_inv hv
        cases g2 with
        | cons g3 g4 =>
          cases g4 with
          | cons g5 g6 =>
            cases g6
            exact ⟨q2, _, 1, _, rfl, rfl, g1, rfl, cs', W', g5, (x10.trans x1013).trans x14⟩
      | false =>
        refine WE.of (pe_cl Mp hr (pa_cons pwe (pa_cons pwe (pa_cons pwe (pa_cons pwe pa_nil))))) ?_
        refine (v_r 1 rfl : EV _ _ H10 _ (isr (.ref p))) H10 (Ext.refl _) _ fun u1 H5 e5 r1 => ?_
        refine (v_r 7 rfl : EV _ _ H5 _ (isr (nv A))) H5 (Ext.refl _) _ fun u2 H6 e6 r2 => ?_
        refine (v_r 8 rfl : EV _ _ H6 _ (isr (nv L))) H6 (Ext.refl _) _ fun u3 H7 e7 r3 => ?_
        refine (v_r 9 rfl : EV _ _ H7 _ (isr (nv k))) H7 (Ext.refl _) _ fun u4 H8 e8 r4 => ?_
        have e48 := ((e5.trans e6).trans e7).trans e8
        exact ⟨p, sc, A, L, k, by rw [show u1 = .ref p from r1, show u2 = nv A from r2, show u3 = nv L from r3, show u4 = nv k from r4]; rfl, hA3, hA4, hL1, hL3, hk2, hkL, hrow10.ext e48, fun cs' v H14 W' x14 _ hv => ⟨cs', W', hv, (x10.trans (e48.r p)).trans x14⟩⟩
    obtain ⟨ys9, hp9⟩ := hrow9.lst
    have hvc10 := hvc.mono (x10.tk hp9)
    have hT10 := x10.tabs hT9
    clear hvc hT9 x10 hrow9 hp9 hT4 hT2 hrow hrow4
    obtain ⟨U, G⟩ := M.gw W
    obtain ⟨R, nR, hR, gR, cR⟩ := ends_T (out := outM A L k) G.gr _ _ _ rfl (TI.start (out := outM A L k) (s := ((A, cs) : Map)) fun _ _ _ => trivial)
    -- the law's own search
    refine b_tup2 10 11 (v_oneM (val := tkd) (v := ((0, 0) : Lab)) hu20 (v_n 2 rfl hvc10) (v_tup (ds := [SL.nd 0, SL.nd 0]) (a_d (v_num (n := 0)) (a_d (v_num (n := 0)) a_nil)) (by simp [sizeLine_eq]))) (v_bl (b := true)) fun v1 v2 H11 H12 H13 e11 e12 e13 r1 r2 => ?_
    obtain ⟨d, rfl, hd0, hd1⟩ := r1
    have r2 := bl_inv r2
    subst r2
    have e1013 := (e11.trans e12).trans e13
    refine b_set 4 (v_every B Fr hr hu64 (hT10.ext e1013) (v_n 2 rfl (hvc10.mono e1013.tk)) W G) fun v H14 e14 ⟨pe, ys, ns, hv, hpe0, hpe1, hys, fi⟩ => ?_
    subst hv
    have e1014 := e1013.trans e14
    obtain ⟨nL, hnL⟩ := ends_L (out := outM A L k) (s := ((A, cs) : Map)) G.gr ns _ [((A, cs), (0, 0))] rfl (TI.start (out := outM A L k) (s := ((A, cs) : Map)) fun _ _ _ => trivial).good
    have hwf : ∀ m, m ∈ ns → m.1 = A ∧ Wf A L k m.2 := fun m hm => by
      obtain ⟨v, hv⟩ := fi.snd m hm
      exact G.wf m v hv
    refine b_while (fun m σ H' => ∃ (F : List (Map × Lab)) (fl : Bool) (o12 o13 o15 o16 : Option V), σ = [some (.ref sc), some (.ref p), some vc, some vo, some (.ref pe), none, none, some (nv A), some (nv L), some (nv k), some (.ref d), some (.bl fl), o12, o13, none, o15, o16] ∧ Ext H10 H' ∧ DV P w K tkd H' d F ∧ H' pe = some (.lst ys) ∧ TDs K H' ys (ns.map chd) ∧
      EndsL (outM A L k) ns m F fl ∧ Good (outM A L k) (A, cs) F ∧ (fl = false → ∀ m, m ∈ ns → Closed (outM A L k) F m))
      ⟨nL, _, true, none, none, none, none, rfl, e1014, hd1.ext ((e12.trans e13).trans e14), hpe1, hys, hnL, (TI.start fun _ _ _ => trivial).good, fun h => by cases h⟩ ?_
    rintro m σ H15 ⟨F, fl, o12, o13, o15, o16, rfl, e15, hd15, hpe15, hys15, hend, gF, cF⟩
    refine ⟨fl, t_b (v_n 11 rfl (.bl fl)), fun hz H16 e16 => ?_, fun hz H16 e16 => ?_⟩
    · subst hz
      cases hend with
      | @succ n _ hnext =>
      refine b_set 11 (v_bl (b := false)) fun v H17 e17 rv => ?_
      have rv := bl_inv rv
      subst rv
      have e1517 := e16.trans e17
      refine b_forL (ds := ns.map chd) (R := isr (.ref pe)) 12 (v_r 4 rfl) fun v H18 e18 rv => ⟨pe, ys, fun i σ' H' => ∃ (o12 o13 o15 o16 : Option V), σ' = [some (.ref sc), some (.ref p), some vc, some vo, some (.ref pe), none, none, some (nv A), some (nv L), some (nv k), some (.ref d), some (.bl ((ns.take i).foldl (hereL (outM A L k)) (F, false)).2), o12, o13, none, o15, o16] ∧ Ext H10 H' ∧
          DV P w K tkd H' d ((ns.take i).foldl (hereL (outM A L k)) (F, false)).1 ∧ H' pe = some (.lst ys) ∧ TDs K H' ys (ns.map chd),
        rv, SqL.of ((e1517.trans e18).lst hpe15), hys15.mono (e1517.trans e18).tk, ⟨_, _, _, _, rfl, e15.trans (e1517.trans e18), hd15.ext (e1517.trans e18), (e1517.trans e18).lst hpe15, hys15.mono (e1517.trans e18).tk⟩, ?_, ?_, ?_⟩
      · rintro i σ' H' ⟨_, _, _, _, _, _, _, h1, h2⟩
        exact ⟨SqL.of h1, h2⟩
      · rintro i dd vh σ' H19 hd hvh ⟨o12, o13, o15, o16, rfl, e19, hd19, hpe19, hys19⟩
        obtain ⟨here, hh, rfl⟩ : ∃ here, ns[i]? = some here ∧ dd = chd here := by
          rw [List.getElem?_map] at hd
          cases e : ns[i]? with
          | none => rw [e] at hd; cases hd
          | some n => rw [e] at hd; exact ⟨n, rfl, (Option.some.inj hd).symm⟩
        have htake : (ns.take (i + 1)).foldl (hereL (outM A L k)) (F, false) = hereL (outM A L k) ((ns.take i).foldl (hereL (outM A L k)) (F, false)) here := by
          rw [List.take_add_one, hh, List.foldl_append]
          rfl
        have li := sweep_inv (out := outM A L k) (s := ((A, cs) : Map)) G.gr (F0 := F) (ns.take i) (fun _ => False) (F, false) ⟨gF, fun _ => rfl, fun _ m hm => hm.elim, (fun h => by cases h)⟩
        dsimp only
        rw [htake]
        generalize (ns.take i).foldl (hereL (outM A L k)) (F, false) = st at hd19 li ⊢
        obtain ⟨A', ch⟩ := here
        obtain ⟨hA, Wh⟩ := hwf (A', ch) (List.mem_of_getElem? hh)
        have hA : A' = A := hA
        subst hA
        have Wh : Wf A' L k ch := Wh
        refine b_if (q := (getB st.1 (A', ch)).isSome) (t_inD (val := tkd) hu20 (v_n 12 rfl hvh) (v_r 10 rfl) hd19) (fun hz H20 e20 => ?_) (fun hz H20 e20 => b_nil (b_nil ?_))
        · obtain ⟨lab, hlab⟩ := Option.isSome_iff_exists.mp hz
          have hST : hereL (outM A' L k) st (A', ch) = (outM A' L k (A', ch)).foldl (relaxL (A', ch)) st := by
            unfold hereL
            rw [if_pos hz]
          rw [hST]
          refine b_forL (ds := (takF A' L k ch).map tkd) 13 (v_clL At hr (hT10.ext (e19.trans e20)) (a_d (v_n 12 rfl (hvh.mono e20.tk)) a_nil) ⟨A', L, k, ch, rfl, Wh, rfl⟩) fun v1 H21 e21 ⟨pn, zs, hv1, hn0, hn1, hn2⟩ => ?_
          have e1921 := e20.trans e21
          refine ⟨pn, zs, fun j σ' H' => ∃ (o13 o15 o16 : Option V), σ' = [some (.ref sc), some (.ref p), some vc, some vo, some (.ref pe), none, none, some (nv A'), some (nv L), some (nv k), some (.ref d), some (.bl (((outM A' L k (A', ch)).take j).foldl (relaxL (A', ch)) st).2), some vh, o13, none, o15, o16] ∧ Ext H10 H' ∧
              DV P w K tkd H' d (((outM A' L k (A', ch)).take j).foldl (relaxL (A', ch)) st).1 ∧ H' pe = some (.lst ys) ∧ TDs K H' ys (ns.map chd) ∧ TD K H' vh (chd (A', ch)) ∧ H' pn = some (.lst zs) ∧ TDs K H' zs ((takF A' L k ch).map tkd),
            hv1, SqL.of hn1, hn2, ⟨_, _, _, rfl, e19.trans e1921, hd19.ext e1921, e1921.lst hpe19, hys19.mono e1921.tk, hvh.mono e1921.tk, hn1, hn2⟩, ?_, ?_, ?_⟩
          · rintro j σ' H' ⟨_, _, _, _, _, _, _, _, _, h1, h2⟩
            exact ⟨SqL.of h1, h2⟩
          · rintro j dd tv σ' H22 hdd htv ⟨o13, o15, o16, rfl, e22, hd22, hpe22, hys22, hvh22, hn22, hz22⟩
            obtain ⟨tk, htk, rfl⟩ : ∃ tk, (takF A' L k ch)[j]? = some tk ∧ dd = tkd tk := by
              rw [List.getElem?_map] at hdd
              cases e : (takF A' L k ch)[j]? with
              | none => rw [e] at hdd; cases hdd
              | some n => rw [e] at hdd; exact ⟨n, rfl, (Option.some.inj hdd).symm⟩
            have htm : tk ∈ takF A' L k ch := List.mem_of_getElem? htk
            have hlt := tak_lt htm
            have hee : (outM A' L k (A', ch))[j]? = some (thereM (A', ch) tk, stepN tk) := by
              unfold outM
              rw [List.getElem?_map, htk]
              rfl
            have htk1 : ((outM A' L k (A', ch)).take (j + 1)).foldl (relaxL (A', ch)) st = relaxL (A', ch) (((outM A' L k (A', ch)).take j).foldl (relaxL (A', ch)) st) (thereM (A', ch) tk, stepN tk) := by
              rw [List.take_add_one, hee, List.foldl_append]
              rfl
            have rj := relaxL_inv (v := lab) (m := ((A', ch) : Map)) G.gr ((outM A' L k (A', ch)).take j) [] st.1 st.2 (fun e he => List.mem_of_mem_take he) li hlab (fun _ e he => by cases he)
            have rg : Good (outM A' L k) (A', cs) (((outM A' L k (A', ch)).take j).foldl (relaxL (A', ch)) st).1 := rj.1.good
            have rl : getB (((outM A' L k (A', ch)).take j).foldl (relaxL (A', ch)) st).1 (A', ch) = some lab := rj.2.1
            dsimp only
            rw [htk1]
            generalize ((outM A' L k (A', ch)).take j).foldl (relaxL (A', ch)) st = s2 at hd22 rg rl ⊢
            have hF2 := rg.len G.gr
            have hul := G.ul
            have Wl := Wh.len
            have WAL := Wh.AL
            refine b_par 15 16 (v_cl Bh hr (hT10.ext e22) (a_d (v_n 12 rfl hvh22) (a_d (v_n 13 rfl htv) a_nil)) ⟨A', ch, tk.1, tk.2, rfl, hlt.1, by omega, rfl⟩)
              (v_tup (ds := [SL.nd (lab.1 + stepN tk), SL.nd (lab.2 + 1)]) (a_d (EV.to (v_add (i := (lab.1 : Int)) (j := if (tk.2 == 0) then 1 else 0) (v_ixT (ds := [SL.nd lab.1, SL.nd lab.2]) (n := 0) (v_getM (val := tkd) (v := lab) hu20 (v_r 10 rfl) (v_n 12 rfl hvh22) hd22 rl) (v_num (n := 0)) rfl) (v_intB B.int (v_eqn (v_ixT (n := 1) (v_n 13 rfl htv) (v_num (n := 1)) rfl) (v_num (n := 0))))) ?_)
                (a_d (v_addn (v_ixT (ds := [SL.nd lab.1, SL.nd lab.2]) (n := 1) (v_getM (val := tkd) (v := lab) hu20 (v_r 10 rfl) (v_n 12 rfl hvh22) hd22 rl) (v_num (n := 1)) rfl) (v_num (n := 1))) a_nil)) (by simp [sizeLine_eq])) fun vt vp H23 H24 e23 e24 r23 r24 => ?_
            · show Dat.int _ = Dat.int _
              unfold stepN
              by_cases h0 : tk.2 = 0
              · simp [h0]
              · simp [h0]
            have r23 : TD K H23 vt (chd (thereM (A', ch) tk)) := r23
            have r24 : TD K H24 vp (tkd (part lab (stepN tk))) := r24
            have e2224 := e23.trans e24
            have hd24 := hd22.ext e2224
            refine b_if (q := betterB s2.1 (thereM (A', ch) tk) (part lab (stepN tk))) (ET.to (t_w (w_or (r := match getB s2.1 (thereM (A', ch) tk) with
                | none => false
                | some u => ltL (part lab (stepN tk)) u) (t_notInD (val := tkd) hu20 (v_n 15 rfl (r23.mono e24.tk)) (v_r 10 rfl) hd24) fun hn => w_or1 ?_)) ?_) (fun hz2 H25 e25 => ?_) (fun hz2 H25 e25 => ?_)
            · obtain ⟨u, hgu⟩ := Option.isSome_iff_exists.mp (show (getB s2.1 (thereM (A', ch) tk)).isSome = true by simpa using hn)
              rw [hgu]
              exact t_ltP (Nat.lt_of_le_of_lt (Nat.le_add_right _ 20) hu20) (v_n 16 rfl r24) (v_getM (val := tkd) (v := u) hu20 (v_r 10 rfl) (v_n 15 rfl (r23.mono e24.tk)) hd24 hgu)
            · unfold betterB
              cases getB s2.1 (thereM (A', ch) tk) <;> rfl
            · have hst2 : relaxL (A', ch) s2 (thereM (A', ch) tk, stepN tk) = (putB s2.1 (thereM (A', ch) tk) (part lab (stepN tk)), true) := by
                unfold relaxL
                simp only [rl, Option.getD_some]
                exact if_pos hz2
              rw [hst2]
              have e2225 := e2224.trans e25
              refine b_putM2 11 hu20 (val := tkd) (v := part lab (stepN tk)) (v_n 16 rfl (r24.mono e25.tk)) (v_bl (b := true)) (v_r 10 rfl) (v_n 15 rfl (r23.mono (e24.trans e25).tk)) (hd22.ext e2225) (by rw [sizeLine_eq]; omega) fun H26 ob e26 hd26 t26 _ => b_nil (b_nil ?_)
              have e2226 := e2225.trans e26
              obtain ⟨fd0, hfd⟩ := (hd22.ext e2226).some
              have nbd : pe ≠ d := ne_of (e2226.lst hpe22) hfd (by intro z; cases z)
              have nnd : pn ≠ d := ne_of (e2226.lst hn22) hfd (by intro z; cases z)
              have tk26 : Tk H22 (upd H26 d ob) := e2226.tk.trans t26
              refine ⟨_, _, _, rfl, (e22.trans e2226).mut hd0, hd26, ?_, hys22.mono tk26, hvh22.mono tk26, ?_, hz22.mono tk26⟩
              · rw [upd_ne nbd]
                exact e2226.lst hpe22
              · rw [upd_ne nnd]
                exact e2226.lst hn22
            · have hst2 : relaxL (A', ch) s2 (thereM (A', ch) tk, stepN tk) = s2 := by
                unfold relaxL
                simp only [rl, Option.getD_some]
                exact if_neg (by rw [hz2]; simp)
              rw [hst2]
              have e2225 := e2224.trans e25
              exact b_nil (b_nil ⟨_, _, _, rfl, e22.trans e2225, hd22.ext e2225, e2225.lst hpe22, hys22.mono e2225.tk, hvh22.mono e2225.tk, e2225.lst hn22, hz22.mono e2225.tk⟩)
          · rintro σ' H22 ⟨o13, o15, o16, rfl, e22, hd22, hpe22, hys22, hvh22, hn22, hz22⟩
            have hl : ((takF A' L k ch).map tkd).length = (outM A' L k (A', ch)).length := by
              rw [List.length_map]
              unfold outM
              rw [List.length_map]
            rw [hl, List.take_length] at hd22
            rw [hl, List.take_length]
            exact b_nil (b_nil ⟨_, _, _, _, rfl, e22, hd22, hpe22, hys22⟩)
        · have hST : hereL (outM A' L k) st (A', ch) = st := by
            unfold hereL
            rw [if_neg (by rw [hz]; simp)]
          rw [hST]
          exact ⟨_, _, _, _, rfl, e19.trans e20, hd19.ext e20, e20.lst hpe19, hys19.mono e20.tk⟩
      · rintro σ' H19 ⟨o12, o13, o15, o16, rfl, e19, hd19, hpe19, hys19⟩
        have hl : (ns.map chd).length = ns.length := List.length_map ..
        rw [hl, List.take_length] at hd19
        rw [hl, List.take_length]
        have sw := gF.sweep G.gr ns
        exact b_nil ⟨n, Nat.lt_succ_self n, _, _, _, _, _, _, rfl, e19, hd19, hpe19, hys19, hnext, sw.1, sw.2.1⟩
    · subst hz
      have cF := cF rfl
      have hcl : ∀ m, Closed (outM A L k) F m := fun m v hv => cF m (fi.all (gF.snd m v hv)) v hv
      have hsame : ∀ m, getB F m = getB R m := fun m => gF.same hcl gR cR m
      have hkey := M.key W W2 gR cR
      have e1016 := e15.trans e16
      have hd16 := hd15.ext e16
      have hvc16 := hvc10.mono e1016.tk
      have hvo16 := hvo.mono e1016.tk
      have hul := G.ul
      have hRl := gR.len G.gr
      refine b_set 5 (v_getDot hu20 (v_r 10 rfl) (v_n 3 rfl hvo16) hd16 ⟨rfl, rfl, rfl, rfl⟩) fun vd H17 e17 rd => ?_
      rw [hsame] at rd
      have rd : TD K H17 vd (labD2 (getB R (A, cs2))) := rd
      have e1017 := e1016.trans e17
      have hT17 := hT10.ext e1017
      have hvc17 := hvc16.mono e17.tk
      have hvo17 := hvo16.mono e17.tk
      have ef : ∀ {H' : Hp} {σ' : L2.St} {q1 q2 q3 q4 : Pos}, Ext H17 H' → σ'[2]? = some (some vc) → σ'[3]? = some (some vo) → EV (cxOf CX0 P w K mg base n_law "law" (defScope t_law) f cdv Ar outer s H E).nox σ' H' (.Call (.Name "fewest_turns" q1) [.Name "_law_chart" q2, .Name "_law_other" q3] [] q4) (isd (cxOf CX0 P w K mg base n_law "law" (defScope t_law) f cdv Ar outer s H E).nox (labD1 (getB R (A, cs2)))) := fun e h1 h2 =>
        v_cl Fw hr (hT17.ext e) (a_d (v_n 2 h1 (hvc17.mono e.tk)) (a_d (v_n 3 h2 (hvo17.mono e.tk)) a_nil)) ⟨A, L, k, nR, cs, cs2, U, R, rfl, W, W2, G, hR, hkey, rfl⟩
      have et : ∀ {H' : Hp} {σ' : L2.St} {q1 q2 q3 q4 : Pos}, Ext H17 H' → σ'[2]? = some (some vc) → σ'[3]? = some (some vo) → EV (cxOf CX0 P w K mg base n_law "law" (defScope t_law) f cdv Ar outer s H E).nox σ' H' (.Call (.Name "turn_row" q1) [.Name "_law_chart" q2, .Name "_law_other" q3] [] q4) (isd (cxOf CX0 P w K mg base n_law "law" (defScope t_law) f cdv Ar outer s H E).nox (labD2 (getB R (A, cs2)))) := fun e h1 h2 =>
        v_cl Tr hr (hT17.ext e) (a_d (v_n 2 h1 (hvc17.mono e.tk)) (a_d (v_n 3 h2 (hvo17.mono e.tk)) a_nil)) ⟨A, L, k, nR, cs, cs2, U, R, rfl, W, W2, G, hR, hkey, rfl⟩
      refine b_if (q := false) (t_w (w_or (q := false) (r := false) ?_ fun _ => w_or1 ?_)) (fun hz H18 e18 => by cases hz) (fun hz H18 e18 => b_nil ?_)
      · cases hD : getB R (A, cs2) with
        | none =>
          rw [hD] at rd ef
          exact (t_not (t_b (v_cl A0 hr hT17 (a_d (ef (Ext.refl _) rfl rfl) (a_d (v_ifd (q := true) (d := .non) ((t_isn (v_n 5 rfl rd)).to rfl) (fun _ => v_non) (fun h => by cases h)) a_nil)) ⟨.non, rfl, .inl rfl, rfl⟩))).to rfl
        | some l =>
          rw [hD] at rd ef
          exact (t_not (t_b (v_cl A0 hr hT17 (a_d (ef (Ext.refl _) rfl rfl) (a_d (v_ifd (q := false) (d := SL.nd l.1) ((t_isn (v_n 5 rfl rd)).to rfl) (fun h => by cases h) (fun _ => v_ixT (ds := [SL.nd l.1, SL.nd l.2]) (n := 0) (v_n 5 rfl rd) (v_num (n := 0)) rfl)) a_nil)) ⟨SL.nd l.1, rfl, .inr ⟨_, rfl⟩, rfl⟩))).to rfl
      · cases hD : getB R (A, cs2) with
        | none =>
          rw [hD] at rd et
          exact (t_not (t_b (v_cl A0 hr hT17 (a_d (et (Ext.refl _) rfl rfl) (a_d (v_n 5 rfl rd) a_nil)) ⟨.non, rfl, .inl rfl, rfl⟩))).to rfl
        | some l =>
          rw [hD] at rd et
          exact (t_not (t_b (v_cl A1 hr hT17 (a_d (et (Ext.refl _) rfl rfl) (a_d (v_n 5 rfl rd) a_nil)) ⟨[l.1, l.2], rfl, by simp, rfl⟩))).to rfl
      · have e1618 := e17.trans e18
        have hd18 := hd16.ext e1618
        have hys18 := (hys15.mono e16.tk).mono e1618.tk
        have hpe18 := (e16.trans e1618).lst hpe15
        have hnsl : ns.length ≤ U.length := fi.len G.gr
        have hnk : ∀ m, m ∈ ns ↔ m ∈ keysB R := fun m => by
          rw [mem_keys]
          constructor
          · intro hm
            obtain ⟨v, hv⟩ := fi.snd m hm
            obtain ⟨u, hu, _⟩ := gR.least cR hv
            rw [hu]
            rfl
          · intro hm
            obtain ⟨v, hv⟩ := Option.isSome_iff_exists.mp hm
            exact fi.all (gR.snd m v hv)
        have hperm := tl_perm gR.nd fi.nd hnk hsame
        have hRne : R ≠ [] := fun z => by
          have := gR.st
          rw [z] at this
          cases this
        have htne : trnF R ≠ [] := fun z => hRne (List.map_eq_nil_iff.mp z)
        have hfew : ∀ x, x ∈ trnF R → x + 1 ≤ R.length := fun x hx => by
          obtain ⟨q, hq, rfl⟩ := List.mem_map.mp hx
          refine turns_few gR cR (fun m e he => ?_) hq
          obtain ⟨t, _, rfl⟩ := List.mem_map.mp he
          show stepN t ≤ 1
          unfold stepN
          split <;> omega
        have hmx := hfew _ (maxl_mem htne)
        have htlne : tlF F ns ≠ [] := fun z => by
          rw [z] at hperm
          exact htne (List.nil_perm.mp hperm)
        have hmx2 : maxl (tlF F ns) + 1 ≤ 16777216 := by
          have := hfew _ (hperm.mem_iff.mp (maxl_mem htlne))
          omega
        refine b_set 6 (EV.toN (es := (tlF F ns).map SL.nd) (v_lcL 13 (ds := ns.map chd) (q := fun _ => true) (gd := fun i => SL.nd ((getB F ((ns[i]?).getD (A, cs))).getD (0, 0)).1) (v_l 4 rfl (SqL.of hpe18) hys18) (by rw [List.length_map, sizeLine_eq]; omega) fun i dd v H' hd hv e' s' H0 C cl fp => ?_) ?_) fun v H19 e19 ⟨pt, ts, hv, ht0, ht1, ht2⟩ => ?_
        · obtain ⟨here, hh, rfl⟩ : ∃ here, ns[i]? = some here ∧ dd = chd here := by
            rw [List.getElem?_map] at hd
            cases e : ns[i]? with
            | none => rw [e] at hd; cases hd
            | some n => rw [e] at hd; exact ⟨n, rfl, (Option.some.inj hd).symm⟩
          obtain ⟨u, hgu⟩ := Option.isSome_iff_exists.mp (mem_keys.mp ((hnk here).mp (List.mem_of_getElem? hh)))
          rw [hh]
          simp only [Option.getD_some]
          rw [hsame, hgu]
          exact ⟨c_nil, fun _ => v_ixT (ds := [SL.nd u.1, SL.nd u.2]) (n := 0) (v_getM (val := tkd) (v := u) hu20 (v_r 10 rfl) (v_n 13 rfl hv) (hd18.ext e') (by rw [hsame]; exact hgu)) (v_num (n := 0)) rfl⟩
        · rw [List.length_map, filter_all]
          unfold tlF
          rw [List.map_map]
          apply List.ext_getElem
          · simp
          · intro i h1 h2
            have hi : i < ns.length := by simpa using h1
            rw [List.getElem_map, List.getElem_range, List.getElem_map, List.getElem?_eq_getElem hi]
            rfl
        · subst hv
          have ht2' := tds_int_inv ht2
          subst ht2'
          have e1719 := e18.trans e19
          have hcp := cnt_perm hperm
          refine b_retd (v_cl A1 hr (hT17.ext e1719) (a_d (v_cl Tc hr (hT17.ext e1719) (a_d (v_n 2 rfl (hvc17.mono e1719.tk)) a_nil) ⟨A, L, k, nR, cs, U, R, rfl, W, G, hR, hRne, by omega, by omega, rfl⟩) (a_d (EV.to (v_toTup B.tuple (EV.rd (v_lcR 14 (m := maxl (tlF F ns) + 1) (q := fun _ => true) (gd := fun i => SL.nd ((tlF F ns).count i)) (v_addn (v_maxL rfl B.max (v_l 6 rfl (SqL.of ht1) (tds_ints _)) htlne) (v_num (n := 1))) hmx2 B.range (fun i H' hi e' s' H0 C cl fp => ⟨c_nil, fun _ => v_count (v_l 6 rfl (SqL.of (e'.lst ht1)) (tds_ints _)) (v_n 14 rfl (.int _))⟩)))) ?_) a_nil))
            ⟨cntF (trnF R), rfl, by rw [cnt_len]; omega, rfl⟩) fun v H' e r => ?_
          · rw [filter_all, ← hcp]
            show Dat.tup _ = Dat.tup ((cntF (tlF F ns)).map SL.nd)
            unfold cntF
            rw [List.map_map]
            rfl
          · have r : TD K H' v (.bl true) := r
            rw [bl_inv r]
            exact hQ H'
end
end SL

set_option maxHeartbeats 8000000
/-! the end: what the top has written -/
namespace SL
open PySem PySem.Spec PyProof.Rows L2 GxR GX StX
theorem tabIn_of {K : PySem.W.Frag} {x : Str} {f c P : Addr} {oc e : Value} {od dd : Option Addr} {fd : FuncData} {sl sq : Array (Option Value)} {vs : Array Value} (a : PySem.W.nsIn K mainGlobals x = some (some (.ref f))) (l : K.lookup f = some ⟨oc, od, .func fd, sl⟩) (hc : fd.code = .ref c) (q : K.lookup c = some ⟨e, dd, .fields vs, sq⟩) (v : vs[11]? = some (.ref P)) : PySem.W.tabIn K x = some (c, P) := by
  unfold PySem.W.tabIn
  simp only [a, l, hc, q, v]
theorem all_mk (M : Facts) {l : PySem.W.OpenLaw} {w : World} {K : PySem.W.Frag} {h : Heap} {mg : Str → Option Value} {fa f1 f2 f3 f4 f5 f6 f7 f8 f9 f10 f11 f12 f13 f14 f15 f16 f17 f18 f19 f20 f21 f22 f23 f24 f25 f26 f27 f28 f29 f30 f31 f32 f33 f34 f35 f36 c1 c2 c3 P1 P2 P3 : Addr} {od1 an1 od2 an2 od3 an3 od4 an4 od5 an5 od6 an6 od7 an7 od8 an8 od9 an9 od10 an10 od11 an11 od12 an12 od13 an13 od14 an14 od15 an15 od16 an16 od17 an17 od18 an18 od19 an19 od20 an20 od21 an21 od22 an22 od23 an23 od24 an24 od25 an25 od26 an26 od27 an27 od28 an28 od29 an29 od30 an30 od31 an31 od32 an32 od33 an33 od34 an34 od35 an35 od36 an36 : Option Addr} {sl1 sl2 sl3 sl4 sl5 sl6 sl7 sl8 sl9 sl10 sl11 sl12 sl13 sl14 sl15 sl16 sl17 sl18 sl19 sl20 sl21 sl22 sl23 sl24 sl25 sl26 sl27 sl28 sl29 sl30 sl31 sl32 sl33 sl34 sl35 sl36 : Array (Option Value)} {oc1 kV1 dc1 pm1 ct1 cd1 oc2 kV2 dc2 pm2 ct2 cd2 oc3 kV3 dc3 pm3 ct3 cd3 oc4 kV4 dc4 pm4 ct4 cd4 oc5 kV5 dc5 pm5 ct5 cd5 oc6 kV6 dc6 pm6 ct6 oc7 kV7 dc7 pm7 ct7 cd7 oc8 kV8 dc8 pm8 ct8 cd8 oc9 kV9 dc9 pm9 ct9 cd9 oc10 kV10 dc10 pm10 ct10 cd10 oc11 kV11 dc11 pm11 ct11 cd11 oc12 kV12 dc12 pm12 ct12 cd12 oc13 kV13 dc13 pm13 ct13 oc14 kV14 dc14 pm14 ct14 cd14 oc15 kV15 dc15 pm15 ct15 cd15 oc16 kV16 dc16 pm16 ct16 oc17 kV17 dc17 pm17 ct17 cd17 oc18 kV18 dc18 pm18 ct18 cd18 oc19 kV19 dc19 pm19 ct19 cd19 oc20 kV20 dc20 pm20 ct20 cd20 oc21 kV21 dc21 pm21 ct21 cd21 oc22 kV22 dc22 pm22 ct22 cd22 oc23 kV23 dc23 pm23 ct23 cd23 oc24 kV24 dc24 pm24 ct24 cd24 oc25 kV25 dc25 pm25 ct25 cd25 oc26 kV26 dc26 pm26 ct26 cd26 oc27 kV27 dc27 pm27 ct27 cd27 oc28 kV28 dc28 pm28 ct28 cd28 oc29 kV29 dc29 pm29 ct29 cd29 oc30 kV30 dc30 pm30 ct30 cd30 oc31 kV31 dc31 pm31 ct31 cd31 oc32 kV32 dc32 pm32 ct32 cd32 oc33 kV33 dc33 pm33 ct33 cd33 oc34 kV34 dc34 pm34 ct34 cd34 oc35 kV35 dc35 pm35 ct35 cd35 oc36 kV36 dc36 pm36 ct36 cd36 : Value} {tk1 tk2 tk3 : Tok} {qc1 qc2 qc3 : Value} {qd1 qd2 qd3 : Option Addr} {qv1 qv2 qv3 : Array Value} {qs1 qs2 qs3 : Array (Option Value)} (X : K.In h) (G : h.Ns mainGlobals mg) (hfa : mg "law" = some (.ref fa))
    (a1 : PySem.W.nsIn K mainGlobals "is_in" = some (some (.ref f1))) (l1 : K.lookup f1 = some ⟨oc1, od1, .func (PySem.W.fnOf "is_in" "is_in" (defArgs t_is_in) (defBody t_is_in) (defScope t_is_in) .none kV1 dc1 pm1 an1 cd1 ct1), sl1⟩) (c1_ : PySem.W.codeIn K cd1 "is_in" = true) (k1 : PySem.W.keepIn K (.ref f1) = true)
    (a2 : PySem.W.nsIn K mainGlobals "near" = some (some (.ref f2))) (l2 : K.lookup f2 = some ⟨oc2, od2, .func (PySem.W.fnOf "near" "near" (defArgs t_near) (defBody t_near) (defScope t_near) .none kV2 dc2 pm2 an2 cd2 ct2), sl2⟩) (c2_ : PySem.W.codeIn K cd2 "near" = true) (k2 : PySem.W.keepIn K (.ref f2) = true)
    (a3 : PySem.W.nsIn K mainGlobals "length_of" = some (some (.ref f3))) (l3 : K.lookup f3 = some ⟨oc3, od3, .func (PySem.W.fnOf "length_of" "length_of" (defArgs t_length_of) (defBody t_length_of) (defScope t_length_of) .none kV3 dc3 pm3 an3 cd3 ct3), sl3⟩) (c3_ : PySem.W.codeIn K cd3 "length_of" = true) (k3 : PySem.W.keepIn K (.ref f3) = true)
    (a4 : PySem.W.nsIn K mainGlobals "held" = some (some (.ref f4))) (l4 : K.lookup f4 = some ⟨oc4, od4, .func (PySem.W.fnOf "held" "held" (defArgs t_held) (defBody t_held) (defScope t_held) .none kV4 dc4 pm4 an4 cd4 ct4), sl4⟩) (c4_ : PySem.W.codeIn K cd4 "held" = true) (k4 : PySem.W.keepIn K (.ref f4) = true)
    (a5 : PySem.W.nsIn K mainGlobals "hangs" = some (some (.ref f5))) (l5 : K.lookup f5 = some ⟨oc5, od5, .func (PySem.W.fnOf "hangs" "hangs" (defArgs t_hangs) (defBody t_hangs) (defScope t_hangs) .none kV5 dc5 pm5 an5 cd5 ct5), sl5⟩) (c5_ : PySem.W.codeIn K cd5 "hangs" = true) (k5 : PySem.W.keepIn K (.ref f5) = true)
    (a6 : PySem.W.nsIn K mainGlobals "are_cells" = some (some (.ref f6))) (l6 : K.lookup f6 = some ⟨oc6, od6, .func (PySem.W.fnOf "are_cells" "are_cells" (defArgs t_are_cells) (defBody t_are_cells) (defScope t_are_cells) .none kV6 dc6 pm6 an6 (.ref c1) ct6), sl6⟩) (c6_ : PySem.W.codeIn K (.ref c1) "are_cells" = true) (k6 : PySem.W.keepIn K (.ref f6) = true)
    (a7 : PySem.W.nsIn K mainGlobals "is_map" = some (some (.ref f7))) (l7 : K.lookup f7 = some ⟨oc7, od7, .func (PySem.W.fnOf "is_map" "is_map" (defArgs t_is_map) (defBody t_is_map) (defScope t_is_map) .none kV7 dc7 pm7 an7 cd7 ct7), sl7⟩) (c7_ : PySem.W.codeIn K cd7 "is_map" = true) (k7 : PySem.W.keepIn K (.ref f7) = true)
    (a8 : PySem.W.nsIn K mainGlobals "need_map" = some (some (.ref f8))) (l8 : K.lookup f8 = some ⟨oc8, od8, .func (PySem.W.fnOf "need_map" "need_map" (defArgs t_need_map) (defBody t_need_map) (defScope t_need_map) .none kV8 dc8 pm8 an8 cd8 ct8), sl8⟩) (c8_ : PySem.W.codeIn K cd8 "need_map" = true) (k8 : PySem.W.keepIn K (.ref f8) = true)
    (a9 : PySem.W.nsIn K mainGlobals "lands_of" = some (some (.ref f9))) (l9 : K.lookup f9 = some ⟨oc9, od9, .func (PySem.W.fnOf "lands_of" "lands_of" (defArgs t_lands_of) (defBody t_lands_of) (defScope t_lands_of) .none kV9 dc9 pm9 an9 cd9 ct9), sl9⟩) (c9_ : PySem.W.codeIn K cd9 "lands_of" = true) (k9 : PySem.W.keepIn K (.ref f9) = true)
    (a10 : PySem.W.nsIn K mainGlobals "outward" = some (some (.ref f10))) (l10 : K.lookup f10 = some ⟨oc10, od10, .func (PySem.W.fnOf "outward" "outward" (defArgs t_outward) (defBody t_outward) (defScope t_outward) .none kV10 dc10 pm10 an10 cd10 ct10), sl10⟩) (c10_ : PySem.W.codeIn K cd10 "outward" = true) (k10 : PySem.W.keepIn K (.ref f10) = true)
    (a11 : PySem.W.nsIn K mainGlobals "order_on" = some (some (.ref f11))) (l11 : K.lookup f11 = some ⟨oc11, od11, .func (PySem.W.fnOf "order_on" "order_on" (defArgs t_order_on) (defBody t_order_on) (defScope t_order_on) .none kV11 dc11 pm11 an11 cd11 ct11), sl11⟩) (c11_ : PySem.W.codeIn K cd11 "order_on" = true) (k11 : PySem.W.keepIn K (.ref f11) = true)
    (a12 : PySem.W.nsIn K mainGlobals "all_orders" = some (some (.ref f12))) (l12 : K.lookup f12 = some ⟨oc12, od12, .func (PySem.W.fnOf "all_orders" "all_orders" (defArgs t_all_orders) (defBody t_all_orders) (defScope t_all_orders) .none kV12 dc12 pm12 an12 cd12 ct12), sl12⟩) (c12_ : PySem.W.codeIn K cd12 "all_orders" = true) (k12 : PySem.W.keepIn K (.ref f12) = true)
    (a13 : PySem.W.nsIn K mainGlobals "is_made" = some (some (.ref f13))) (l13 : K.lookup f13 = some ⟨oc13, od13, .func (PySem.W.fnOf "is_made" "is_made" (defArgs t_is_made) (defBody t_is_made) (defScope t_is_made) .none kV13 dc13 pm13 an13 (.ref c2) ct13), sl13⟩) (c13_ : PySem.W.codeIn K (.ref c2) "is_made" = true) (k13 : PySem.W.keepIn K (.ref f13) = true)
    (a14 : PySem.W.nsIn K mainGlobals "all_takings" = some (some (.ref f14))) (l14 : K.lookup f14 = some ⟨oc14, od14, .func (PySem.W.fnOf "all_takings" "all_takings" (defArgs t_all_takings) (defBody t_all_takings) (defScope t_all_takings) .none kV14 dc14 pm14 an14 cd14 ct14), sl14⟩) (c14_ : PySem.W.codeIn K cd14 "all_takings" = true) (k14 : PySem.W.keepIn K (.ref f14) = true)
    (a15 : PySem.W.nsIn K mainGlobals "taken" = some (some (.ref f15))) (l15 : K.lookup f15 = some ⟨oc15, od15, .func (PySem.W.fnOf "taken" "taken" (defArgs t_taken) (defBody t_taken) (defScope t_taken) .none kV15 dc15 pm15 an15 cd15 ct15), sl15⟩) (c15_ : PySem.W.codeIn K cd15 "taken" = true) (k15 : PySem.W.keepIn K (.ref f15) = true)
    (a16 : PySem.W.nsIn K mainGlobals "bare_of" = some (some (.ref f16))) (l16 : K.lookup f16 = some ⟨oc16, od16, .func (PySem.W.fnOf "bare_of" "bare_of" (defArgs t_bare_of) (defBody t_bare_of) (defScope t_bare_of) .none kV16 dc16 pm16 an16 (.ref c3) ct16), sl16⟩) (c16_ : PySem.W.codeIn K (.ref c3) "bare_of" = true) (k16 : PySem.W.keepIn K (.ref f16) = true)
    (a17 : PySem.W.nsIn K mainGlobals "freezes" = some (some (.ref f17))) (l17 : K.lookup f17 = some ⟨oc17, od17, .func (PySem.W.fnOf "freezes" "freezes" (defArgs t_freezes) (defBody t_freezes) (defScope t_freezes) .none kV17 dc17 pm17 an17 cd17 ct17), sl17⟩) (c17_ : PySem.W.codeIn K cd17 "freezes" = true) (k17 : PySem.W.keepIn K (.ref f17) = true)
    (a18 : PySem.W.nsIn K mainGlobals "tips" = some (some (.ref f18))) (l18 : K.lookup f18 = some ⟨oc18, od18, .func (PySem.W.fnOf "tips" "tips" (defArgs t_tips) (defBody t_tips) (defScope t_tips) .none kV18 dc18 pm18 an18 cd18 ct18), sl18⟩) (c18_ : PySem.W.codeIn K cd18 "tips" = true) (k18 : PySem.W.keepIn K (.ref f18) = true)
    (a19 : PySem.W.nsIn K mainGlobals "key_of" = some (some (.ref f19))) (l19 : K.lookup f19 = some ⟨oc19, od19, .func (PySem.W.fnOf "key_of" "key_of" (defArgs t_key_of) (defBody t_key_of) (defScope t_key_of) .none kV19 dc19 pm19 an19 cd19 ct19), sl19⟩) (c19_ : PySem.W.codeIn K cd19 "key_of" = true) (k19 : PySem.W.keepIn K (.ref f19) = true)
    (a20 : PySem.W.nsIn K mainGlobals "need_two" = some (some (.ref f20))) (l20 : K.lookup f20 = some ⟨oc20, od20, .func (PySem.W.fnOf "need_two" "need_two" (defArgs t_need_two) (defBody t_need_two) (defScope t_need_two) .none kV20 dc20 pm20 an20 cd20 ct20), sl20⟩) (c20_ : PySem.W.codeIn K cd20 "need_two" = true) (k20 : PySem.W.keepIn K (.ref f20) = true)
    (a21 : PySem.W.nsIn K mainGlobals "turns_from" = some (some (.ref f21))) (l21 : K.lookup f21 = some ⟨oc21, od21, .func (PySem.W.fnOf "turns_from" "turns_from" (defArgs t_turns_from) (defBody t_turns_from) (defScope t_turns_from) .none kV21 dc21 pm21 an21 cd21 ct21), sl21⟩) (c21_ : PySem.W.codeIn K cd21 "turns_from" = true) (k21 : PySem.W.keepIn K (.ref f21) = true)
    (a22 : PySem.W.nsIn K mainGlobals "fewest_turns" = some (some (.ref f22))) (l22 : K.lookup f22 = some ⟨oc22, od22, .func (PySem.W.fnOf "fewest_turns" "fewest_turns" (defArgs t_fewest_turns) (defBody t_fewest_turns) (defScope t_fewest_turns) .none kV22 dc22 pm22 an22 cd22 ct22), sl22⟩) (c22_ : PySem.W.codeIn K cd22 "fewest_turns" = true) (k22 : PySem.W.keepIn K (.ref f22) = true)
    (a23 : PySem.W.nsIn K mainGlobals "turn_row" = some (some (.ref f23))) (l23 : K.lookup f23 = some ⟨oc23, od23, .func (PySem.W.fnOf "turn_row" "turn_row" (defArgs t_turn_row) (defBody t_turn_row) (defScope t_turn_row) .none kV23 dc23 pm23 an23 cd23 ct23), sl23⟩) (c23_ : PySem.W.codeIn K cd23 "turn_row" = true) (k23 : PySem.W.keepIn K (.ref f23) = true)
    (a24 : PySem.W.nsIn K mainGlobals "turn_counts" = some (some (.ref f24))) (l24 : K.lookup f24 = some ⟨oc24, od24, .func (PySem.W.fnOf "turn_counts" "turn_counts" (defArgs t_turn_counts) (defBody t_turn_counts) (defScope t_turn_counts) .none kV24 dc24 pm24 an24 cd24 ct24), sl24⟩) (c24_ : PySem.W.codeIn K cd24 "turn_counts" = true) (k24 : PySem.W.keepIn K (.ref f24) = true)
    (a25 : PySem.W.nsIn K mainGlobals "_law_taken" = some (some (.ref f25))) (l25 : K.lookup f25 = some ⟨oc25, od25, .func (PySem.W.fnOf "_law_taken" "_law_taken" (defArgs t_law_taken) (defBody t_law_taken) (defScope t_law_taken) .none kV25 dc25 pm25 an25 cd25 ct25), sl25⟩) (c25_ : PySem.W.codeIn K cd25 "_law_taken" = true) (k25 : PySem.W.keepIn K (.ref f25) = true)
    (a26 : PySem.W.nsIn K mainGlobals "_law_pick" = some (some (.ref f26))) (l26 : K.lookup f26 = some ⟨oc26, od26, .func (PySem.W.fnOf "_law_pick" "_law_pick" (defArgs t_law_pick) (defBody t_law_pick) (defScope t_law_pick) .none kV26 dc26 pm26 an26 cd26 ct26), sl26⟩) (c26_ : PySem.W.codeIn K cd26 "_law_pick" = true) (k26 : PySem.W.keepIn K (.ref f26) = true)
    (a27 : PySem.W.nsIn K mainGlobals "_law_alike" = some (some (.ref f27))) (l27 : K.lookup f27 = some ⟨oc27, od27, .func (PySem.W.fnOf "_law_alike" "_law_alike" (defArgs t_law_alike) (defBody t_law_alike) (defScope t_law_alike) .none kV27 dc27 pm27 an27 cd27 ct27), sl27⟩) (c27_ : PySem.W.codeIn K cd27 "_law_alike" = true) (k27 : PySem.W.keepIn K (.ref f27) = true)
    (a28 : PySem.W.nsIn K mainGlobals "_law_near" = some (some (.ref f28))) (l28 : K.lookup f28 = some ⟨oc28, od28, .func (PySem.W.fnOf "_law_near" "_law_near" (defArgs t_law_near) (defBody t_law_near) (defScope t_law_near) .none kV28 dc28 pm28 an28 cd28 ct28), sl28⟩) (c28_ : PySem.W.codeIn K cd28 "_law_near" = true) (k28 : PySem.W.keepIn K (.ref f28) = true)
    (a29 : PySem.W.nsIn K mainGlobals "_law_hangs" = some (some (.ref f29))) (l29 : K.lookup f29 = some ⟨oc29, od29, .func (PySem.W.fnOf "_law_hangs" "_law_hangs" (defArgs t_law_hangs) (defBody t_law_hangs) (defScope t_law_hangs) .none kV29 dc29 pm29 an29 cd29 ct29), sl29⟩) (c29_ : PySem.W.codeIn K cd29 "_law_hangs" = true) (k29 : PySem.W.keepIn K (.ref f29) = true)
    (a30 : PySem.W.nsIn K mainGlobals "_law_map" = some (some (.ref f30))) (l30 : K.lookup f30 = some ⟨oc30, od30, .func (PySem.W.fnOf "_law_map" "_law_map" (defArgs t_law_map) (defBody t_law_map) (defScope t_law_map) .none kV30 dc30 pm30 an30 cd30 ct30), sl30⟩) (c30_ : PySem.W.codeIn K cd30 "_law_map" = true) (k30 : PySem.W.keepIn K (.ref f30) = true)
    (a31 : PySem.W.nsIn K mainGlobals "_law_takings" = some (some (.ref f31))) (l31 : K.lookup f31 = some ⟨oc31, od31, .func (PySem.W.fnOf "_law_takings" "_law_takings" (defArgs t_law_takings) (defBody t_law_takings) (defScope t_law_takings) .none kV31 dc31 pm31 an31 cd31 ct31), sl31⟩) (c31_ : PySem.W.codeIn K cd31 "_law_takings" = true) (k31 : PySem.W.keepIn K (.ref f31) = true)
    (a32 : PySem.W.nsIn K mainGlobals "_law_behind" = some (some (.ref f32))) (l32 : K.lookup f32 = some ⟨oc32, od32, .func (PySem.W.fnOf "_law_behind" "_law_behind" (defArgs t_law_behind) (defBody t_law_behind) (defScope t_law_behind) .none kV32 dc32 pm32 an32 cd32 ct32), sl32⟩) (c32_ : PySem.W.codeIn K cd32 "_law_behind" = true) (k32 : PySem.W.keepIn K (.ref f32) = true)
    (a33 : PySem.W.nsIn K mainGlobals "_law_from" = some (some (.ref f33))) (l33 : K.lookup f33 = some ⟨oc33, od33, .func (PySem.W.fnOf "_law_from" "_law_from" (defArgs t_law_from) (defBody t_law_from) (defScope t_law_from) .none kV33 dc33 pm33 an33 cd33 ct33), sl33⟩) (c33_ : PySem.W.codeIn K cd33 "_law_from" = true) (k33 : PySem.W.keepIn K (.ref f33) = true)
    (a34 : PySem.W.nsIn K mainGlobals "_law_walk" = some (some (.ref f34))) (l34 : K.lookup f34 = some ⟨oc34, od34, .func (PySem.W.fnOf "_law_walk" "_law_walk" (defArgs t_law_walk) (defBody t_law_walk) (defScope t_law_walk) .none kV34 dc34 pm34 an34 cd34 ct34), sl34⟩) (c34_ : PySem.W.codeIn K cd34 "_law_walk" = true) (k34 : PySem.W.keepIn K (.ref f34) = true)
    (a35 : PySem.W.nsIn K mainGlobals "_law_island" = some (some (.ref f35))) (l35 : K.lookup f35 = some ⟨oc35, od35, .func (PySem.W.fnOf "_law_island" "_law_island" (defArgs t_law_island) (defBody t_law_island) (defScope t_law_island) .none kV35 dc35 pm35 an35 cd35 ct35), sl35⟩) (c35_ : PySem.W.codeIn K cd35 "_law_island" = true) (k35 : PySem.W.keepIn K (.ref f35) = true)
    (a36 : PySem.W.nsIn K mainGlobals "law" = some (some (.ref f36))) (l36 : K.lookup f36 = some ⟨oc36, od36, .func (PySem.W.fnOf "law" "law" (defArgs t_law) (defBody t_law) (defScope t_law) .none kV36 dc36 pm36 an36 cd36 ct36), sl36⟩) (c36_ : PySem.W.codeIn K cd36 "law" = true) (k36 : PySem.W.keepIn K (.ref f36) = true)
    (z1 : PySem.W.nsIn K mainGlobals "len" = some none)
    (z2 : PySem.W.nsIn K mainGlobals "range" = some none)
    (z3 : PySem.W.nsIn K mainGlobals "isinstance" = some none)
    (z4 : PySem.W.nsIn K mainGlobals "int" = some none)
    (z5 : PySem.W.nsIn K mainGlobals "bool" = some none)
    (z6 : PySem.W.nsIn K mainGlobals "str" = some none)
    (z7 : PySem.W.nsIn K mainGlobals "max" = some none)
    (z8 : PySem.W.nsIn K mainGlobals "tuple" = some none)
    (z9 : PySem.W.nsIn K mainGlobals "list" = some none)
    (z10 : PySem.W.nsIn K mainGlobals "sorted" = some none)
    (z11 : PySem.W.nsIn K mainGlobals "enumerate" = some none)
    (z12 : PySem.W.nsIn K mainGlobals "all" = some none)
    (z13 : PySem.W.nsIn K mainGlobals "any" = some none)
    (y1 : PySem.W.nsIn K mainGlobals "MOST_LENGTH" = some (some (.int 4 tk1)))
    (y2 : PySem.W.nsIn K mainGlobals "LEAST_ARMS" = some (some (.int 3 tk2)))
    (y3 : PySem.W.nsIn K mainGlobals "MOST_ARMS" = some (some (.int 4 tk3)))
    (q1 : K.lookup c1 = some ⟨qc1, qd1, .fields qv1, qs1⟩) (v1 : qv1[11]? = some (.ref P1)) (q2 : K.lookup c2 = some ⟨qc2, qd2, .fields qv2, qs2⟩) (v2 : qv2[11]? = some (.ref P2)) (q3 : K.lookup c3 = some ⟨qc3, qd3, .fields qv3, qs3⟩) (v3 : qv3[11]? = some (.ref P3)) (n1 : K.lookup P1 = none) (n2 : K.lookup P2 = none) (n3 : K.lookup P3 = none)
    : ∃ (fd : FuncData) (c1 P1 c2 P2 c3 P3 : Addr), PySem.W.tabIn K "are_cells" = some (c1, P1) ∧ PySem.W.tabIn K "is_made" = some (c2, P2) ∧ PySem.W.tabIn K "bare_of" = some (c3, P3) ∧ K.lookup P1 = none ∧ K.lookup P2 = none ∧ K.lookup P3 = none ∧ (∀ (s : Shared) (v : Value), BindsTo s fd ⟨[v], []⟩ [("_law_script", v)]) ∧ ∀ base : Heap, K.In base → base.Ns mainGlobals mg → TabB base mg c1 P1 → TabB base mg c2 P2 → TabB base mg c3 P3 → FnOk l.prog w K mg base CX0 9 fa fd ["_law_script"] (spLaw K [P1, P2, P3]) := by
  have e := hfa.symm.trans (PySem.W.mg_of X G a36)
  cases e
  have t1 := tabIn_of a6 l6 rfl q1 v1
  have t2 := tabIn_of a13 l13 rfl q2 v2
  have t3 := tabIn_of a16 l16 rfl q3 v3
  have B : Bt mg := ⟨PySem.W.mg_none_of X G z1, PySem.W.mg_none_of X G z2, PySem.W.mg_none_of X G z3, PySem.W.mg_none_of X G z4, PySem.W.mg_none_of X G z5, PySem.W.mg_none_of X G z6, PySem.W.mg_none_of X G z7, PySem.W.mg_none_of X G z8, PySem.W.mg_none_of X G z9, PySem.W.mg_none_of X G z10, PySem.W.mg_none_of X G z11, PySem.W.mg_none_of X G z12, PySem.W.mg_none_of X G z13, ⟨_, PySem.W.mg_of X G y1⟩, ⟨_, PySem.W.mg_of X G y2⟩, ⟨_, PySem.W.mg_of X G y3⟩, boot_all⟩
  refine ⟨PySem.W.fnOf "law" "law" (defArgs t_law) (defBody t_law) (defScope t_law) .none kV36 dc36 pm36 an36 cd36 ct36, c1, P1, c2, P2, c3, P3, t1, t2, t3, n1, n2, n3, fun s v => .of_eq rfl, fun base _ _ T1 T2 T3 => ?_⟩
  have F1 := fun_mk (st := t_is_in) l1 c1_ k1
  have b1 := F1.binds (ps := p_is_in) fun _ _ _ _ _ _ us hl => match us, hl with | [_, _, _], _ => rfl
  have C_is_in : Clb l.prog w K mg base 1 "is_in" _ := ⟨_, _, _, ok_is_in (P := l.prog) (w := w) (base := base) (T := [P1, P2, P3]) F1 B, PySem.W.mg_of X G a1, k1, b1⟩
  have F2 := fun_mk (st := t_near) l2 c2_ k2
  have b2 := F2.binds (ps := p_near) fun _ _ _ _ _ _ us hl => match us, hl with | [_, _, _], _ => rfl
  have C_near : Clb l.prog w K mg base 1 "near" _ := ⟨_, _, _, ok_near (P := l.prog) (w := w) (base := base) (T := [P1, P2, P3]) F2 B, PySem.W.mg_of X G a2, k2, b2⟩
  have F3 := fun_mk (st := t_length_of) l3 c3_ k3
  have b3 := F3.binds (ps := p_length_of) fun _ _ _ _ _ _ us hl => match us, hl with | [_], _ => rfl
  have C_length_of : Clb l.prog w K mg base 1 "length_of" _ := ⟨_, _, _, ok_length_of (P := l.prog) (w := w) (base := base) (T := [P1, P2, P3]) F3 B, PySem.W.mg_of X G a3, k3, b3⟩
  have F4 := fun_mk (st := t_held) l4 c4_ k4
  have b4 := F4.binds (ps := p_held) fun _ _ _ _ _ _ us hl => match us, hl with | [_, _], _ => rfl
  have C_held : Clb l.prog w K mg base 1 "held" _ := ⟨_, _, _, ok_held (P := l.prog) (w := w) (base := base) (T := [P1, P2, P3]) F4 B, PySem.W.mg_of X G a4, k4, b4⟩
  have F5 := fun_mk (st := t_hangs) l5 c5_ k5
  have b5 := F5.binds (ps := p_hangs) fun _ _ _ _ _ _ us hl => match us, hl with | [_, _, _], _ => rfl
  have C_hangs : Clb l.prog w K mg base 2 "hangs" _ := ⟨_, _, _, ok_hangs (P := l.prog) (w := w) (base := base) (T := [P1, P2, P3]) F5 B C_near, PySem.W.mg_of X G a5, k5, b5⟩
  have F6 : FunC K "are_cells" "are_cells" t_are_cells f6 _ c1 := ⟨⟨_, _, _, _, _, _, _, _, rfl, l6, c6_⟩, k6⟩
  have b6 := F6.fun_.binds (ps := p_are_cells) fun _ _ _ _ _ _ us hl => match us, hl with | [_, _], _ => rfl
  have C_are_cells : Clb l.prog w K mg base 4 "are_cells" _ := ⟨_, _, _, ok_are_cells (P := l.prog) (w := w) (base := base) (T := [P1, P2, P3]) F6 B T1 (by simp) C_is_in C_hangs C_held, PySem.W.mg_of X G a6, k6, b6⟩
  have F7 := fun_mk (st := t_is_map) l7 c7_ k7
  have b7 := F7.binds (ps := p_is_map) fun _ _ _ _ _ _ us hl => match us, hl with | [_], _ => rfl
  have C_is_map : Clb l.prog w K mg base 5 "is_map" _ := ⟨_, _, _, ok_is_map (P := l.prog) (w := w) (base := base) (T := [P1, P2, P3]) F7 B C_is_in C_are_cells, PySem.W.mg_of X G a7, k7, b7⟩
  have F8 := fun_mk (st := t_need_map) l8 c8_ k8
  have b8 := F8.binds (ps := p_need_map) fun _ _ _ _ _ _ us hl => match us, hl with | [_], _ => rfl
  have C_need_map : Clb l.prog w K mg base 6 "need_map" _ := ⟨_, _, _, ok_need_map (P := l.prog) (w := w) (base := base) (T := [P1, P2, P3]) F8 C_is_map, PySem.W.mg_of X G a8, k8, b8⟩
  have F9 := fun_mk (st := t_lands_of) l9 c9_ k9
  have b9 := F9.binds (ps := p_lands_of) fun _ _ _ _ _ _ us hl => match us, hl with | [_], _ => rfl
  have C_lands_of : Clb l.prog w K mg base 1 "lands_of" _ := ⟨_, _, _, ok_lands_of (P := l.prog) (w := w) (base := base) (T := [P1, P2, P3]) F9 B, PySem.W.mg_of X G a9, k9, b9⟩
  have F10 := fun_mk (st := t_outward) l10 c10_ k10
  have b10 := F10.binds (ps := p_outward) fun _ _ _ _ _ _ us hl => match us, hl with | [_, _], _ => rfl
  have C_outward : Clb l.prog w K mg base 2 "outward" _ := ⟨_, _, _, ok_outward (P := l.prog) (w := w) (base := base) (T := [P1, P2, P3]) F10 B C_length_of, PySem.W.mg_of X G a10, k10, b10⟩
  have F11 := fun_mk (st := t_order_on) l11 c11_ k11
  have b11 := F11.binds (ps := p_order_on) fun _ _ _ _ _ _ us hl => match us, hl with | [_, _], _ => rfl
  have C_order_on : Clb l.prog w K mg base 3 "order_on" _ := ⟨_, _, _, ok_order_on (P := l.prog) (w := w) (base := base) (T := [P1, P2, P3]) F11 B C_outward, PySem.W.mg_of X G a11, k11, b11⟩
  have F12 := fun_mk (st := t_all_orders) l12 c12_ k12
  have b12 := F12.binds (ps := p_all_orders) fun _ _ _ _ _ _ us hl => match us, hl with | [_], _ => rfl
  have C_all_orders : Clb l.prog w K mg base 4 "all_orders" _ := ⟨_, _, _, ok_all_orders (P := l.prog) (w := w) (base := base) (T := [P1, P2, P3]) F12 B C_order_on, PySem.W.mg_of X G a12, k12, b12⟩
  have F13 : FunC K "is_made" "is_made" t_is_made f13 _ c2 := ⟨⟨_, _, _, _, _, _, _, _, rfl, l13, c13_⟩, k13⟩
  have b13 := F13.fun_.binds (ps := p_is_made) fun _ _ _ _ _ _ us hl => match us, hl with | [_, _], _ => rfl
  have C_is_made : Clb l.prog w K mg base 3 "is_made" _ := ⟨_, _, _, ok_is_made (P := l.prog) (w := w) (base := base) (T := [P1, P2, P3]) F13 B T2 (by simp) C_near C_length_of C_hangs C_held, PySem.W.mg_of X G a13, k13, b13⟩
  have F14 := fun_mk (st := t_all_takings) l14 c14_ k14
  have b14 := F14.binds (ps := p_all_takings) fun _ _ _ _ _ _ us hl => match us, hl with | [_], _ => rfl
  have C_all_takings : Clb l.prog w K mg base 4 "all_takings" _ := ⟨_, _, _, ok_all_takings (P := l.prog) (w := w) (base := base) (T := [P1, P2, P3]) F14 B C_is_made C_lands_of, PySem.W.mg_of X G a14, k14, b14⟩
  have F15 := fun_mk (st := t_taken) l15 c15_ k15
  have b15 := F15.binds (ps := p_taken) fun _ _ _ _ _ _ us hl => match us, hl with | [_, _], _ => rfl
  have C_taken : Clb l.prog w K mg base 1 "taken" _ := ⟨_, _, _, ok_taken (P := l.prog) (w := w) (base := base) (T := [P1, P2, P3]) F15 , PySem.W.mg_of X G a15, k15, b15⟩
  have F16 : FunC K "bare_of" "bare_of" t_bare_of f16 _ c3 := ⟨⟨_, _, _, _, _, _, _, _, rfl, l16, c16_⟩, k16⟩
  have b16 := F16.fun_.binds (ps := p_bare_of) fun _ _ _ _ _ _ us hl => match us, hl with | [_], _ => rfl
  have C_bare_of : Clb l.prog w K mg base 4 "bare_of" _ := ⟨_, _, _, ok_bare_of (P := l.prog) (w := w) (base := base) (T := [P1, P2, P3]) F16 B T3 (by simp) C_outward, PySem.W.mg_of X G a16, k16, b16⟩
  have F17 := fun_mk (st := t_freezes) l17 c17_ k17
  have b17 := F17.binds (ps := p_freezes) fun _ _ _ _ _ _ us hl => match us, hl with | [_], _ => rfl
  have C_freezes : Clb l.prog w K mg base 5 "freezes" _ := ⟨_, _, _, ok_freezes (P := l.prog) (w := w) (base := base) (T := [P1, P2, P3]) F17 C_bare_of, PySem.W.mg_of X G a17, k17, b17⟩
  have F18 := fun_mk (st := t_tips) l18 c18_ k18
  have b18 := F18.binds (ps := p_tips) fun _ _ _ _ _ _ us hl => match us, hl with | [_], _ => rfl
  have C_tips : Clb l.prog w K mg base 3 "tips" _ := ⟨_, _, _, ok_tips (P := l.prog) (w := w) (base := base) (T := [P1, P2, P3]) F18 B C_outward, PySem.W.mg_of X G a18, k18, b18⟩
  have F19 := fun_mk (st := t_key_of) l19 c19_ k19
  have b19 := F19.binds (ps := p_key_of) fun _ _ _ _ _ _ us hl => match us, hl with | [_], _ => rfl
  have C_key_of : Clb l.prog w K mg base 6 "key_of" _ := ⟨_, _, _, ok_key_of (P := l.prog) (w := w) (base := base) (T := [P1, P2, P3]) F19 B C_lands_of C_freezes C_all_orders C_tips, PySem.W.mg_of X G a19, k19, b19⟩
  have F20 := fun_mk (st := t_need_two) l20 c20_ k20
  have b20 := F20.binds (ps := p_need_two) fun _ _ _ _ _ _ us hl => match us, hl with | [_, _], _ => rfl
  have C_need_two : Clb l.prog w K mg base 7 "need_two" _ := ⟨_, _, _, ok_need_two (P := l.prog) (w := w) (base := base) (T := [P1, P2, P3]) F20 B C_need_map C_is_map C_lands_of, PySem.W.mg_of X G a20, k20, b20⟩
  have F21 := fun_mk (st := t_turns_from) l21 c21_ k21
  have b21 := F21.binds (ps := p_turns_from) fun _ _ _ _ _ _ us hl => match us, hl with | [_], _ => rfl
  have C_turns_from : Clb l.prog w K mg base 5 "turns_from" _ := ⟨_, _, _, ok_turns_from (P := l.prog) (w := w) (base := base) (T := [P1, P2, P3]) F21 B C_all_takings C_taken, PySem.W.mg_of X G a21, k21, b21⟩
  have F22 := fun_mk (st := t_fewest_turns) l22 c22_ k22
  have b22 := F22.binds (ps := p_fewest_turns) fun _ _ _ _ _ _ us hl => match us, hl with | [_, _], _ => rfl
  have C_fewest_turns : Clb l.prog w K mg base 8 "fewest_turns" _ := ⟨_, _, _, ok_fewest_turns (P := l.prog) (w := w) (base := base) (T := [P1, P2, P3]) F22 C_turns_from C_need_two C_key_of, PySem.W.mg_of X G a22, k22, b22⟩
  have F23 := fun_mk (st := t_turn_row) l23 c23_ k23
  have b23 := F23.binds (ps := p_turn_row) fun _ _ _ _ _ _ us hl => match us, hl with | [_, _], _ => rfl
  have C_turn_row : Clb l.prog w K mg base 8 "turn_row" _ := ⟨_, _, _, ok_turn_row (P := l.prog) (w := w) (base := base) (T := [P1, P2, P3]) F23 C_turns_from C_need_two C_key_of, PySem.W.mg_of X G a23, k23, b23⟩
  have F24 := fun_mk (st := t_turn_counts) l24 c24_ k24
  have b24 := F24.binds (ps := p_turn_counts) fun _ _ _ _ _ _ us hl => match us, hl with | [_], _ => rfl
  have C_turn_counts : Clb l.prog w K mg base 7 "turn_counts" _ := ⟨_, _, _, ok_turn_counts (P := l.prog) (w := w) (base := base) (T := [P1, P2, P3]) F24 B C_turns_from C_need_map, PySem.W.mg_of X G a24, k24, b24⟩
  have F25 := fun_mk (st := t_law_taken) l25 c25_ k25
  have b25 := F25.binds (ps := p_law_taken) fun _ _ _ _ _ _ us hl => match us, hl with | [_, _], _ => rfl
  have C_law_taken : Clb l.prog w K mg base 1 "_law_taken" _ := ⟨_, _, _, ok_law_taken (P := l.prog) (w := w) (base := base) F25 B, PySem.W.mg_of X G a25, k25, b25⟩
  have F26 := fun_mk (st := t_law_pick) l26 c26_ k26
  have b26 := F26.binds (ps := p_law_pick) fun _ _ _ _ _ _ us hl => match us, hl with | [_, _], _ => rfl
  have C_law_pick : Clb l.prog w K mg base 2 "_law_pick" _ := ⟨_, _, _, ok_law_pick (P := l.prog) (w := w) (base := base) F26 B C_law_taken, PySem.W.mg_of X G a26, k26, b26⟩
  have F27 := fun_mk (st := t_law_alike) l27 c27_ k27
  have b27 := F27.binds (ps := p_law_alike) fun _ _ _ _ _ _ us hl => match us, hl with | [_, _], _ => rfl
  have C_law_alike : Clb l.prog w K mg base 1 "_law_alike" _ := ⟨_, _, _, ok_law_alike0 (P := l.prog) (w := w) (base := base) (T := [P1, P2, P3]) F27 B, PySem.W.mg_of X G a27, k27, b27⟩
  have C_law_alike1 : Clb l.prog w K mg base 2 "_law_alike" _ := ⟨_, _, _, ok_law_alike1 (P := l.prog) (w := w) (base := base) (T := [P1, P2, P3]) F27 B C_law_alike, PySem.W.mg_of X G a27, k27, b27⟩
  have F28 := fun_mk (st := t_law_near) l28 c28_ k28
  have b28 := F28.binds (ps := p_law_near) fun _ _ _ _ _ _ us hl => match us, hl with | [_, _, _], _ => rfl
  have C_law_near : Clb l.prog w K mg base 1 "_law_near" _ := ⟨_, _, _, ok_law_near (P := l.prog) (w := w) (base := base) (T := [P1, P2, P3]) F28 B, PySem.W.mg_of X G a28, k28, b28⟩
  have F29 := fun_mk (st := t_law_hangs) l29 c29_ k29
  have b29 := F29.binds (ps := p_law_hangs) fun _ _ _ _ _ _ us hl => match us, hl with | [_, _, _], _ => rfl
  have C_law_hangs : Clb l.prog w K mg base 2 "_law_hangs" _ := ⟨_, _, _, ok_law_hangs (P := l.prog) (w := w) (base := base) (T := [P1, P2, P3]) F29 B C_law_near, PySem.W.mg_of X G a29, k29, b29⟩
  have F30 := fun_mk (st := t_law_map) l30 c30_ k30
  have b30 := F30.binds (ps := p_law_map) fun _ _ _ _ _ _ us hl => match us, hl with | [_, _, _, _], _ => rfl
  have C_law_map : Clb l.prog w K mg base 3 "_law_map" _ := ⟨_, _, _, ok_law_map (P := l.prog) (w := w) (base := base) F30 B C_law_pick, PySem.W.mg_of X G a30, k30, b30⟩
  have F31 := fun_mk (st := t_law_takings) l31 c31_ k31
  have b31 := F31.binds (ps := p_law_takings) fun _ _ _ _ _ _ us hl => match us, hl with | [_], _ => rfl
  have C_law_takings : Clb l.prog w K mg base 3 "_law_takings" _ := ⟨_, _, _, ok_law_takings (P := l.prog) (w := w) (base := base) (T := [P1, P2, P3]) F31 B C_law_near C_law_hangs, PySem.W.mg_of X G a31, k31, b31⟩
  have F32 := fun_mk (st := t_law_behind) l32 c32_ k32
  have b32 := F32.binds (ps := p_law_behind) fun _ _ _ _ _ _ us hl => match us, hl with | [_, _], _ => rfl
  have C_law_behind : Clb l.prog w K mg base 1 "_law_behind" _ := ⟨_, _, _, ok_law_behind (P := l.prog) (w := w) (base := base) (T := [P1, P2, P3]) F32 , PySem.W.mg_of X G a32, k32, b32⟩
  have F33 := fun_mk (st := t_law_from) l33 c33_ k33
  have b33 := F33.binds (ps := p_law_from) fun _ _ _ _ _ _ us hl => match us, hl with | [_], _ => rfl
  have C_law_from : Clb l.prog w K mg base 4 "_law_from" _ := ⟨_, _, _, ok_law_from (P := l.prog) (w := w) (base := base) (T := [P1, P2, P3]) F33 B C_law_takings C_law_behind, PySem.W.mg_of X G a33, k33, b33⟩
  have F34 := fun_mk (st := t_law_walk) l34 c34_ k34
  have b34 := F34.binds (ps := p_law_walk) fun _ _ _ _ _ _ us hl => match us, hl with | [_, _, _], _ => rfl
  have C_law_walk : Clb l.prog w K mg base 4 "_law_walk" _ := ⟨_, _, _, ok_law_walk (P := l.prog) (w := w) (base := base) (T := [P1, P2, P3]) F34 B C_law_pick C_law_takings C_law_behind, PySem.W.mg_of X G a34, k34, b34⟩
  have F35 := fun_mk (st := t_law_island) l35 c35_ k35
  have b35 := F35.binds (ps := p_law_island) fun _ _ _ _ _ _ us hl => match us, hl with | [_, _], _ => rfl
  have C_law_island : Clb l.prog w K mg base 2 "_law_island" _ := ⟨_, _, _, ok_law_island (P := l.prog) (w := w) (base := base) F35 C_law_taken, PySem.W.mg_of X G a35, k35, b35⟩
  exact ok_law (P := l.prog) (w := w) (base := base) (T := [P1, P2, P3]) M (fun_mk (st := t_law) l36 c36_ k36) B C_law_taken C_law_island C_law_map C_law_walk C_law_from C_law_takings C_law_behind C_fewest_turns C_turn_row C_turn_counts C_law_alike C_law_alike1
theorem tab_cv {base : Heap} {mg : Str → Option Value} {c P : Addr} (x : LamX.TabB base mg c P) : TabB base mg c P := ⟨x.code, x.bm, x.gP⟩
/-- the walk of the row -/
theorem walk {l : PySem.W.OpenLaw} {q : Program} {loose : List Str} {XP : (Str → Option Value) → Heap → Prop} {YP : World → Heap → Prop} {d : DefRec} {K : Params → PySem.W.Frag} (hn : l.most = some 63) (hdf : d.params.defaults = [])
    (r1 : ((recsOf q).find? fun e => e.name == ("are_cells" : Str)).isSome = true) (r2 : ((recsOf q).find? fun e => e.name == ("is_made" : Str)).isSome = true) (r3 : ((recsOf q).find? fun e => e.name == ("bare_of" : Str)).isSome = true) (hY : ∀ (w : World) (h : Heap), YP w h → (K w.params).In h)
    (F : ∀ (w : World) (mg : Str → Option Value) (fa : Addr) (h : Heap), (K w.params).In h → h.Ns mainGlobals mg → mg d.name = some (.ref fa) →
      ∃ (fd : FuncData) (c1 P1 c2 P2 c3 P3 : Addr), PySem.W.tabIn (K w.params) "are_cells" = some (c1, P1) ∧ PySem.W.tabIn (K w.params) "is_made" = some (c2, P2) ∧ PySem.W.tabIn (K w.params) "bare_of" = some (c3, P3) ∧ (K w.params).lookup P1 = none ∧ (K w.params).lookup P2 = none ∧ (K w.params).lookup P3 = none ∧
        (∀ (s : Shared) (u : Value), BindsTo s fd ⟨[u], []⟩ [("_law_script", u)]) ∧ ∀ base : Heap, (K w.params).In base → base.Ns mainGlobals mg → TabB base mg c1 P1 → TabB base mg c2 P2 → TabB base mg c3 P3 → FnOk l.prog w (K w.params) mg base CX0 9 fa fd ["_law_script"] (spLaw (K w.params) [P1, P2, P3])) :
    PySem.W.WalkO q loose XP YP l.row.toRowW d [] (fun f vs => PySem.call f vs) := by
  refine Att.attach_callB (n := 63) hn hdf fun w s₀ s₁ mg mb fa o pm cd doc a vs ns G Y ho hd hcd hmg hobj hints hlen hbits hg => ?_
  have KX := hY w _ Y
  obtain ⟨d1, r1⟩ := Option.isSome_iff_exists.mp r1
  obtain ⟨d2, r2⟩ := Option.isSome_iff_exists.mp r2
  obtain ⟨d3, r3⟩ := Option.isSome_iff_exists.mp r3
  obtain ⟨fd, c1, P1, c2, P2, c3, P3, t1, t2, t3, n1, n2, n3, hb, hF⟩ := F w mg fa _ KX G.T.g hmg
  have g1 := PySem.W.tab_of G.T KX r1 t1
  have g2 := PySem.W.tab_of G.T KX r2 t2
  have g3 := PySem.W.tab_of G.T KX r3 t3
  have all3 : ∀ {Z : Addr × Addr → Prop}, Z (c1, P1) → Z (c2, P2) → Z (c3, P3) → ∀ p ∈ [(c1, P1), (c2, P2), (c3, P3)], Z p := fun z1 z2 z3 p hp => by
    rcases List.mem_cons.mp hp with e | hp
    · rw [e]; exact z1
    · rcases List.mem_cons.mp hp with e | hp
      · rw [e]; exact z2
      · rw [List.mem_singleton.mp hp]; exact z3
  refine LamX.law_callTs (cs := [(c1, P1), (c2, P2), (c3, P3)]) (k := 9) (x := "_law_script") (CX := CX0) (sp := spLaw (K w.params) [P1, P2, P3]) KX G.T.g G.T.b G.T.builtins G.T.nolimit hg (all3 g1.2 g2.2 g3.2) (all3 n1 n2 n3) (all3 g1.1 g2.1 g3.1) G.T.bmain hobj hints (Nat.le_trans hlen (by decide)) ⟨rfl, by decide, by decide⟩
    (fun base h1 h2 h3 => hF base h1 h2 (tab_cv (h3 (c1, P1) (by simp))) (tab_cv (h3 (c2, P2) (by simp))) (tab_cv (h3 (c3, P3) (by simp)))) hb (fun H hH hS => ⟨a, ns, rfl, hS, fun P hP => ?_, fun _ => rfl⟩) fun _ _ _ z => z
  have e : P = P1 ∨ P = P2 ∨ P = P3 := by simpa using hP
  have tb : TriplesOk (#[] : Array Value).toList := by trivial
  rcases e with e | e | e
  · rw [e]; exact ⟨#[], hH (c1, P1) (by simp), tb⟩
  · rw [e]; exact ⟨#[], hH (c2, P2) (by simp), tb⟩
  · rw [e]; exact ⟨#[], hH (c3, P3) (by simp), tb⟩
end SL

/-! plain: rows, the lands in their order; all maps in one list -/
namespace SL
/-- the lands that begin along a row, p the land before it -/
def rk : Nat → List Nat → List Nat
  | _, [] => []
  | p, y :: ys => if y = p then rk y ys else y :: rk y ys
def RootAt (p : Nat) (r : List Nat) (i x : Nat) : Prop := r[i]? = some x ∧ (p :: r)[i]? ≠ some x
theorem rootAt_succ {p y : Nat} {ys : List Nat} {i x : Nat} : RootAt p (y :: ys) (i + 1) x ↔ RootAt y ys i x := by
  unfold RootAt
  simp
theorem rk_mem : ∀ {r : List Nat} {p x : Nat}, x ∈ rk p r ↔ ∃ i, RootAt p r i x
  | [], p, x => by simp [rk, RootAt]
  | y :: ys, p, x => by
    rw [rk]
    constructor
    · intro h
      split at h
      · obtain ⟨i, hi⟩ := rk_mem.mp h
        exact ⟨i + 1, rootAt_succ.mpr hi⟩
      · rename_i hyp
        rcases List.mem_cons.mp h with h | h
        · exact ⟨0, by simp [RootAt, h]; exact fun z => hyp z.symm⟩
        · obtain ⟨i, hi⟩ := rk_mem.mp h
          exact ⟨i + 1, rootAt_succ.mpr hi⟩
    · rintro ⟨i, hi⟩
      cases i with
      | zero =>
        have h1 : y = x := by simpa [RootAt] using hi.1
        have h2 : p ≠ x := by simpa [RootAt] using hi.2
        rw [if_neg (fun z => h2 (by rw [← z]; exact h1)), h1]
        simp
      | succ i =>
        have := rk_mem.mpr ⟨i, rootAt_succ.mp hi⟩
        split
        · exact this
        · exact List.mem_cons_of_mem _ this
theorem rk_nodup : ∀ {r : List Nat} {p : Nat}, (∀ i j x, RootAt p r i x → RootAt p r j x → i = j) → (rk p r).Nodup
  | [], p, _ => by simp [rk]
  | y :: ys, p, h => by
    have ih : (rk y ys).Nodup := rk_nodup fun i j x h1 h2 => by
      have := h (i + 1) (j + 1) x (rootAt_succ.mpr h1) (rootAt_succ.mpr h2)
      omega
    rw [rk]
    split
    · exact ih
    · rename_i hyp
      rw [List.nodup_cons]
      refine ⟨fun z => ?_, ih⟩
      obtain ⟨i, hi⟩ := rk_mem.mp z
      have := h 0 (i + 1) y (by simp [RootAt]; exact fun z => hyp z.symm) (rootAt_succ.mpr hi)
      omega
theorem inn_row {L a i : Nat} (hi : i < L) : innF L (1 + a * L + i) = if i = 0 then 0 else 1 + a * L + i - 1 := by
  unfold innF
  have : (1 + a * L + i - 1) % L = i := by
    rw [show 1 + a * L + i - 1 = i + a * L by omega, Nat.add_mul_mod_self_right]
    exact Nat.mod_eq_of_lt hi
  rw [this]
theorem cell_lt {A L a i : Nat} (ha : a < A) (hi : i < L) : 1 + a * L + i < 1 + A * L := by
  have : (a + 1) * L ≤ A * L := Nat.mul_le_mul_right L ha
  rw [Nat.add_mul] at this
  omega
/-- a root of the row is one of the map -/
theorem root_row {A L : Nat} {cs : List Nat} (hlen : cs.length = 1 + A * L) {a i x : Nat} (ha : a < A) : RootAt (hubF cs) (rowF L cs a) i x ↔ i < L ∧ Rt L cs x (1 + a * L + i) := by
  have hrl := row_len hlen ha
  by_cases hi : i < L
  · have hg := row_get hlen ha hi
    have hlt := cell_lt ha hi
    unfold RootAt Rt
    rw [hg, inn_row hi]
    cases i with
    | zero =>
      simp only [List.getElem?_cons_zero, if_pos rfl, hubF]
      constructor
      · rintro ⟨h1, h2⟩
        exact ⟨hi, by omega, by simpa using h1, .inr (by simpa using h2)⟩
      · rintro ⟨_, _, h1, h2⟩
        refine ⟨by rw [h1], ?_⟩
        rcases h2 with h2 | h2
        · omega
        · simpa using h2
    | succ i =>
      have hg2 := row_get hlen ha (i := i) (by omega)
      rw [List.getElem?_cons_succ, hg2, if_neg (Nat.succ_ne_zero i), show 1 + a * L + (i + 1) - 1 = 1 + a * L + i by omega]
      constructor
      · rintro ⟨h1, h2⟩
        exact ⟨hi, by omega, by simpa using h1, .inr (by simpa using h2)⟩
      · rintro ⟨_, _, h1, h2⟩
        refine ⟨by rw [h1], ?_⟩
        rcases h2 with h2 | h2
        · omega
        · simpa using h2
  · constructor
    · rintro ⟨h1, _⟩
      rw [List.getElem?_eq_none_iff.mpr (by omega)] at h1
      cases h1
    · rintro ⟨h, _⟩
      exact absurd h hi
theorem cell_inj {L a b i j : Nat} (hi : i < L) (hj : j < L) (h : 1 + a * L + i = 1 + b * L + j) : a = b ∧ i = j := by
  have h1 : a * L + i = b * L + j := by omega
  have ha : (a * L + i) / L = a := by rw [Nat.mul_comm, Nat.mul_add_div (by omega), Nat.div_eq_of_lt hi, Nat.add_zero]
  have hb : (b * L + j) / L = b := by rw [Nat.mul_comm, Nat.mul_add_div (by omega), Nat.div_eq_of_lt hj, Nat.add_zero]
  have hm : (a * L + i) % L = i := by rw [Nat.mul_comm, Nat.mul_add_mod, Nat.mod_eq_of_lt hi]
  have hn : (b * L + j) % L = j := by rw [Nat.mul_comm, Nat.mul_add_mod, Nat.mod_eq_of_lt hj]
  rw [h1] at ha hm
  exact ⟨ha.symm.trans hb, hm.symm.trans hn⟩
theorem Wf.uniq {A L k : Nat} {cs : List Nat} (w : Wf A L k cs) {x c d : Nat} (h1 : Rt L cs x c) (h2 : Rt L cs x d) : c = d := by
  have hx : x < k := by
    rw [← h1.2.1]
    exact w.at_lt h1.1
  obtain ⟨r, _, hu⟩ := hang_rt.mp (w.hang x hx)
  rw [hu c h1, hu d h2]
theorem Wf.hub_root {A L k : Nat} {cs : List Nat} (w : Wf A L k cs) : Rt L cs (hubF cs) 0 := ⟨by rw [w.len]; omega, rfl, .inl rfl⟩
theorem Wf.row_nodup {A L k : Nat} {cs : List Nat} (w : Wf A L k cs) {a : Nat} (ha : a < A) : (hubF cs :: rk (hubF cs) (rowF L cs a)).Nodup := by
  rw [List.nodup_cons]
  constructor
  · intro z
    obtain ⟨i, hi⟩ := rk_mem.mp z
    have := w.uniq ((root_row w.len ha).mp hi).2 w.hub_root
    omega
  · refine rk_nodup fun i j x h1 h2 => ?_
    have g1 := (root_row w.len ha).mp h1
    have g2 := (root_row w.len ha).mp h2
    exact (cell_inj g1.1 g2.1 (w.uniq g1.2 g2.2)).2

/-! ### all rows, all maps -/
def rowsAll : Nat → List (List Nat)
  | 0 => [[]]
  | n + 1 => (List.range 4).flatMap fun x => (rowsAll n).map (x :: ·)
theorem rowsAll_mem : ∀ {r : List Nat}, (∀ x, x ∈ r → x < 4) → r ∈ rowsAll r.length
  | [], _ => by simp [rowsAll]
  | x :: r, h => by
    rw [List.length_cons, rowsAll, List.mem_flatMap]
    exact ⟨x, List.mem_range.mpr (h x List.mem_cons_self), List.mem_map.mpr ⟨r, rowsAll_mem fun y hy => h y (List.mem_cons_of_mem _ hy), rfl⟩⟩
def rowsV (L h : Nat) : List (List Nat) := (rowsAll L).filter fun r => decide ((h :: rk h r).Nodup)
theorem rowsV_len : ∀ L, L < 4 → ∀ h, h < 4 → (rowsV L h).length ≤ 34 := by decide +kernel
def prods (R : List (List Nat)) : Nat → List (List Nat)
  | 0 => [[]]
  | n + 1 => (prods R n).flatMap fun p => R.map fun r => p ++ r
theorem flat_len {α β : Type} (f : α → List β) (n : Nat) : ∀ l : List α, (∀ x, x ∈ l → (f x).length = n) → (l.flatMap f).length = l.length * n
  | [], _ => by simp
  | x :: l, h => by
    rw [List.flatMap_cons, List.length_append, flat_len f n l fun y hy => h y (List.mem_cons_of_mem _ hy), h x List.mem_cons_self, List.length_cons, Nat.succ_mul]
    omega
theorem prods_len (R : List (List Nat)) : ∀ n, (prods R n).length = R.length ^ n
  | 0 => by simp [prods]
  | n + 1 => by
    rw [prods, flat_len _ R.length _ fun p _ => by simp, prods_len R n, Nat.pow_succ]
theorem prods_mem {R : List (List Nat)} {f : Nat → List Nat} : ∀ n, (∀ a, a < n → f a ∈ R) → ((List.range n).map f).flatten ∈ prods R n
  | 0, _ => by simp [prods]
  | n + 1, h => by
    rw [List.range_succ, List.map_append, List.flatten_append, prods, List.mem_flatMap]
    refine ⟨_, prods_mem n fun a ha => h a (by omega), List.mem_map.mpr ⟨f n, h n (by omega), by simp⟩⟩
/-- a map is its hub and its rows -/
theorem rows_eq {A L : Nat} {cs : List Nat} (hlen : cs.length = 1 + A * L) : cs = hubF cs :: ((List.range A).map fun a => rowF L cs a).flatten := by
  have key : ∀ n, n ≤ A → (cs.drop 1).take (n * L) = ((List.range n).map fun a => rowF L cs a).flatten := by
    intro n
    induction n with
    | zero => intro _; simp
    | succ n ih =>
      intro hn
      rw [List.range_succ, List.map_append, List.flatten_append, ← ih (by omega)]
      have : rowF L cs n = ((cs.drop 1).drop (n * L)).take L := by
        unfold rowF
        rw [List.drop_drop]
      simp only [List.map_cons, List.map_nil, List.flatten_cons, List.flatten_nil, List.append_nil]
      rw [this, Nat.add_mul, Nat.one_mul, List.take_add]
  have h1 := key A (Nat.le_refl _)
  rw [List.take_of_length_le (by rw [List.length_drop, hlen]; omega)] at h1
  rw [← h1]
  cases cs with
  | nil => simp at hlen; omega
  | cons x xs => rfl
def univ (A L : Nat) : List (Nat × List Nat) := ((List.range 4).flatMap fun h => (prods (rowsV L h) A).map fun p => h :: p).map fun cs => (A, cs)
theorem univ_mem {A L k : Nat} {cs : List Nat} (w : Wf A L k cs) : (A, cs) ∈ univ A L := by
  have hk4 : k ≤ 4 := by have := w.kL; have := w.L3; omega
  have hlt : ∀ x, x ∈ cs → x < 4 := fun x hx => by have := w.lt x hx; omega
  have hh : hubF cs < 4 := by
    have := w.at_lt (c := 0) (by rw [w.len]; omega)
    unfold hubF
    omega
  refine List.mem_map.mpr ⟨cs, List.mem_flatMap.mpr ⟨hubF cs, List.mem_range.mpr hh, List.mem_map.mpr ⟨_, prods_mem (f := fun a => rowF L cs a) A fun a ha => ?_, (rows_eq w.len).symm⟩⟩, rfl⟩
  refine List.mem_filter.mpr ⟨?_, by simpa using w.row_nodup ha⟩
  have hrl := row_len w.len ha
  have := rowsAll_mem (r := rowF L cs a) fun x hx => hlt x (List.mem_of_mem_drop (List.mem_of_mem_take hx))
  rw [hrl] at this
  exact this
theorem univ_len {A L : Nat} (hA : A ≤ 4) (hL : L ≤ 3) : (univ A L).length + 1 < 16777216 := by
  unfold univ
  rw [List.length_map]
  have h1 : ∀ h, h < 4 → (prods (rowsV L h) A).length ≤ 34 ^ 4 := fun h hh => by
    rw [prods_len]
    exact Nat.le_trans (Nat.pow_le_pow_left (rowsV_len L (by omega) h hh) A) (Nat.pow_le_pow_right (by omega) hA)
  have : ∀ n, n ≤ 4 → ((List.range n).flatMap fun h => (prods (rowsV L h) A).map fun p => h :: p).length ≤ n * 34 ^ 4 := by
    intro n
    induction n with
    | zero => intro _; simp
    | succ n ih =>
      intro hn
      rw [List.range_succ, List.flatMap_append, List.length_append]
      have := ih (by omega)
      have h2 := h1 n (by omega)
      simp only [List.flatMap_cons, List.flatMap_nil, List.append_nil, List.length_map]
      rw [Nat.succ_mul]
      omega
  have := this 4 (Nat.le_refl _)
  omega
end SL

/-! plain: the key is the same behind a taking -/
namespace SL
def skF (A L : Nat) (cs : List Nat) : List (List Nat) := (List.range A).map fun a => rk (hubF cs) (rowF L cs a)
theorem cell_of {A L c : Nat} (hL : 0 < L) (h0 : c ≠ 0) (hc : c < 1 + A * L) : ∃ a i, a < A ∧ i < L ∧ c = 1 + a * L + i := by
  refine ⟨(c - 1) / L, (c - 1) % L, ?_, Nat.mod_lt _ hL, ?_⟩
  · rw [Nat.div_lt_iff_lt_mul hL]
    omega
  · have := Nat.div_add_mod (c - 1) L
    rw [Nat.mul_comm] at this
    omega
theorem sk_mem {A L k : Nat} {cs : List Nat} (w : Wf A L k cs) {a x : Nat} (ha : a < A) : x ∈ rk (hubF cs) (rowF L cs a) ↔ ∃ i, i < L ∧ Rt L cs x (1 + a * L + i) := by
  rw [rk_mem]
  exact ⟨fun ⟨i, h⟩ => ⟨i, (root_row w.len ha).mp h⟩, fun ⟨i, h⟩ => ⟨i, (root_row w.len ha).mpr h⟩⟩
theorem sk_disj {A L k : Nat} {cs : List Nat} (w : Wf A L k cs) {a b x : Nat} (ha : a < A) (hb : b < A) (h1 : x ∈ rk (hubF cs) (rowF L cs a)) (h2 : x ∈ rk (hubF cs) (rowF L cs b)) : a = b := by
  obtain ⟨i, hi, r1⟩ := (sk_mem w ha).mp h1
  obtain ⟨j, hj, r2⟩ := (sk_mem w hb).mp h2
  exact (cell_inj hi hj (w.uniq r1 r2)).1
theorem sk_lt {A L k : Nat} {cs : List Nat} (w : Wf A L k cs) {a x : Nat} (ha : a < A) (h : x ∈ rk (hubF cs) (rowF L cs a)) : x < k := by
  obtain ⟨i, hi, r⟩ := (sk_mem w ha).mp h
  rw [← r.2.1]
  exact w.at_lt r.1
theorem sk_all {A L k : Nat} {cs : List Nat} (w : Wf A L k cs) {x : Nat} (hx : x < k) : x = hubF cs ∨ ∃ a, a < A ∧ x ∈ rk (hubF cs) (rowF L cs a) := by
  obtain ⟨c, hc, _⟩ := hang_rt.mp (w.hang x hx)
  by_cases h0 : c = 0
  · left
    rw [h0] at hc
    exact hc.2.1.symm
  · have hlt := hc.1
    rw [w.len] at hlt
    obtain ⟨a, i, ha, hi, e⟩ := cell_of w.L1 h0 hlt
    right
    rw [e] at hc
    exact ⟨a, ha, (sk_mem w ha).mpr ⟨i, hi, hc⟩⟩
theorem hub_lt {A L k : Nat} {cs : List Nat} (w : Wf A L k cs) : hubF cs < k := w.at_lt (by rw [w.len]; omega)
/-- hub and rows together name every land once -/
theorem sk_perm {A L k : Nat} {cs : List Nat} (w : Wf A L k cs) : (hubF cs :: (skF A L cs).flatten).Perm (List.range k) := by
  refine (List.perm_ext_iff_of_nodup ?_ List.nodup_range).mpr fun x => ?_
  · rw [List.nodup_cons]
    constructor
    · intro z
      obtain ⟨l, hl, hx⟩ := List.mem_flatten.mp z
      obtain ⟨a, ha, rfl⟩ := List.mem_map.mp hl
      exact (List.nodup_cons.mp (w.row_nodup (List.mem_range.mp ha))).1 hx
    · unfold List.Nodup
      rw [List.pairwise_flatten]
      constructor
      · intro l hl
        obtain ⟨a, ha, rfl⟩ := List.mem_map.mp hl
        exact (List.nodup_cons.mp (w.row_nodup (List.mem_range.mp ha))).2
      · unfold skF
        rw [List.pairwise_map]
        refine List.nodup_range.imp_of_mem fun {a b} ha hb hab x hx y hy e => ?_
        rw [← e] at hy
        exact hab (sk_disj w (List.mem_range.mp ha) (List.mem_range.mp hb) hx hy)
  · rw [List.mem_cons, List.mem_range]
    constructor
    · rintro (h | h)
      · rw [h]; exact hub_lt w
      · obtain ⟨l, hl, hx⟩ := List.mem_flatten.mp h
        obtain ⟨a, ha, rfl⟩ := List.mem_map.mp hl
        exact sk_lt w (List.mem_range.mp ha) hx
    · intro hx
      rcases sk_all w hx with h | ⟨a, ha, h⟩
      · exact .inl h
      · exact .inr (List.mem_flatten.mpr ⟨_, List.mem_map.mpr ⟨a, List.mem_range.mpr ha, rfl⟩, h⟩)
theorem row_in {A L k : Nat} {cs : List Nat} (w : Wf A L k cs) {a : Nat} (ha : a < A) : rowF L cs a ∈ rowsV L (hubF cs) := by
  have hk4 : k ≤ 4 := by have := w.kL; have := w.L3; omega
  refine List.mem_filter.mpr ⟨?_, by simpa using w.row_nodup ha⟩
  have hrl := row_len w.len ha
  have := rowsAll_mem (r := rowF L cs a) fun x hx => by
    have := w.lt x (List.mem_of_mem_drop (List.mem_of_mem_take hx))
    omega
  rw [hrl] at this
  exact this
theorem row_set {A L : Nat} {cs : List Nat} (hlen : cs.length = 1 + A * L) {a i l : Nat} (ha : a < A) (hi : i < L) {b : Nat} (hb : b < A) : rowF L (cs.set (1 + a * L + i) l) b = if b = a then (rowF L cs a).set i l else rowF L cs b := by
  have hlen' : (cs.set (1 + a * L + i) l).length = 1 + A * L := by rw [List.length_set]; exact hlen
  have hc : 1 + a * L + i < cs.length := by rw [hlen]; exact cell_lt ha hi
  apply List.ext_getElem?
  intro j
  by_cases hj : j < L
  · rw [row_get hlen' hb hj, getD_set hc]
    by_cases e : b = a
    · subst e
      rw [if_pos rfl, List.getElem?_set]
      by_cases e2 : i = j
      · subst e2
        rw [if_pos rfl, if_pos rfl, if_pos (by rw [row_len hlen hb]; exact hi)]
      · rw [if_neg (fun z => e2 (cell_inj hj hi z).2.symm), if_neg e2, row_get hlen hb hj]
    · rw [if_neg (fun z => e (cell_inj hj hi z).1), if_neg e, row_get hlen hb hj]
  · have h1 := row_len hlen' hb
    rw [List.getElem?_eq_none_iff.mpr (by omega)]
    split
    · rw [List.getElem?_eq_none_iff.mpr (by rw [List.length_set, row_len hlen ha]; omega)]
    · rw [List.getElem?_eq_none_iff.mpr (by rw [row_len hlen hb]; omega)]
theorem hub_set {cs : List Nat} {c l : Nat} (hc : c < cs.length) (h0 : c ≠ 0) : hubF (cs.set c l) = hubF cs := by
  unfold hubF
  rw [getD_set hc, if_neg (fun z => h0 z.symm)]
/-! checked, row by row -/
def locB (L : Nat) : Bool := (List.range 4).all fun h => (rowsV L h).all fun r => (List.range L).all fun i => (List.range 4).all fun l =>
  !(decide ((h :: rk h (r.set i l)).Nodup) && (rk h r).all (fun x => (rk h (r.set i l)).contains x) && (rk h (r.set i l)).all (fun x => (rk h r).contains x)) || rk h (r.set i l) == rk h r
theorem locB_ok : ∀ L, L < 4 → locB L = true := by decide +kernel
def ordB (L : Nat) : Bool := (List.range 4).all fun h => (rowsV L h).all fun r => (ordF h r == rk h r) && (r.all (fun x => x == h) == (rk h r).isEmpty) && (L == 0 || r.getD (L - 1) 0 == (rk h r).getLastD h)
theorem ordB_ok : ∀ L, L < 4 → ordB L = true := by decide +kernel
theorem hub4 {A L k : Nat} {cs : List Nat} (w : Wf A L k cs) : hubF cs < 4 := by
  have := hub_lt w
  have := w.kL
  have := w.L3
  omega
theorem row_facts {A L k : Nat} {cs : List Nat} (w : Wf A L k cs) {a : Nat} (ha : a < A) : ordF (hubF cs) (rowF L cs a) = rk (hubF cs) (rowF L cs a) ∧ ((rowF L cs a).all (fun x => x == hubF cs)) = (rk (hubF cs) (rowF L cs a)).isEmpty ∧ cs.getD ((a + 1) * L) 0 = (rk (hubF cs) (rowF L cs a)).getLastD (hubF cs) := by
  have h := ordB_ok L (by have := w.L3; omega)
  unfold ordB at h
  have h1 := List.all_eq_true.mp (List.all_eq_true.mp h _ (List.mem_range.mpr (hub4 w))) _ (row_in w ha)
  rw [Bool.and_eq_true, Bool.and_eq_true] at h1
  refine ⟨by simpa using h1.1.1, by simpa using h1.1.2, ?_⟩
  have hL1 := w.L1
  have h2 : (rowF L cs a).getD (L - 1) 0 = (rk (hubF cs) (rowF L cs a)).getLastD (hubF cs) := by
    have := h1.2
    rw [Bool.or_eq_true] at this
    rcases this with h | h
    · have : L = 0 := by simpa using h
      omega
    · simpa using h
  have h3 : (rowF L cs a).getD (L - 1) 0 = cs.getD (1 + a * L + (L - 1)) 0 := by
    rw [List.getD_eq_getElem?_getD, row_get w.len ha (show L - 1 < L by omega)]
    rfl
  rw [← h2, h3]
  congr 1
  rw [Nat.add_mul]
  omega
/-- the parts of the key by the skeleton -/
theorem ords_sk {A L k : Nat} {cs : List Nat} (w : Wf A L k cs) : ordsF A L cs = skF A L cs := List.map_congr_left fun a ha => (row_facts w (List.mem_range.mp ha)).1
theorem bare_sk {A L k : Nat} {cs : List Nat} (w : Wf A L k cs) : bareF A L cs = ((skF A L cs).filter (·.isEmpty)).length := by
  unfold bareF skF
  rw [List.filter_map, List.length_map]
  congr 1
  refine List.filter_congr fun a ha => ?_
  exact (row_facts w (List.mem_range.mp ha)).2.1
theorem tips_sk {A L k : Nat} {cs : List Nat} (w : Wf A L k cs) : tipsF A L cs = (skF A L cs).map fun l => l.getLastD (hubF cs) := by
  unfold tipsF skF
  rw [List.map_map]
  exact List.map_congr_left fun a ha => (row_facts w (List.mem_range.mp ha)).2.2
/-- a taking away from the hub keeps hub and skeleton -/
theorem sk_take {A L k : Nat} {cs : List Nat} {t : Nat × Nat} (w : Wf A L k cs) (h : t ∈ takF A L k cs) (h0 : t.2 ≠ 0) : hubF (cs.set t.2 t.1) = hubF cs ∧ skF A L (cs.set t.2 t.1) = skF A L cs := by
  have w' := w.take h
  obtain ⟨h1, h2, h3⟩ := tak_iff.mp h
  have hh := hub_set (l := t.1) h2 h0
  obtain ⟨a, i, ha, hi, e⟩ := cell_of w.L1 h0 (by rw [← w.len]; exact h2)
  refine ⟨hh, List.map_congr_left fun b hb => ?_⟩
  have hb := List.mem_range.mp hb
  rw [hh, e, row_set w.len ha hi hb]
  split
  · rename_i eb
    subst eb
    have hrow : rowF L (cs.set t.2 t.1) b = (rowF L cs b).set i t.1 := by rw [e, row_set w.len ha hi hb, if_pos rfl]
    have hl := locB_ok L (by have := w.L3; omega)
    unfold locB at hl
    have hk4 : k ≤ 4 := by have := w.kL; have := w.L3; omega
    have g := List.all_eq_true.mp (List.all_eq_true.mp (List.all_eq_true.mp (List.all_eq_true.mp hl _ (List.mem_range.mpr (hub4 w))) _ (row_in w hb)) i (List.mem_range.mpr hi)) t.1 (List.mem_range.mpr (by omega))
    rw [Bool.or_eq_true] at g
    rcases g with g | g
    · exfalso
      have hn := w'.row_nodup hb
      rw [hh, hrow] at hn
      have other : ∀ b', b' < A → b' ≠ b → rowF L (cs.set t.2 t.1) b' = rowF L cs b' := fun b' hb' hne => by rw [e, row_set w.len ha hi hb', if_neg hne]
      have m1 : ∀ x, x ∈ rk (hubF cs) (rowF L cs b) → x ∈ rk (hubF cs) ((rowF L cs b).set i t.1) := fun x hx => by
        have hxk := sk_lt w hb hx
        have hxh : x ≠ hubF cs := fun z => by
          rw [z] at hx
          exact (List.nodup_cons.mp (w.row_nodup hb)).1 hx
        rcases sk_all w' hxk with q | ⟨b', hb', q⟩
        · rw [hh] at q
          exact absurd q hxh
        · rw [hh] at q
          by_cases eb : b' = b
          · rw [eb, hrow] at q
            exact q
          · rw [other b' hb' eb] at q
            exact absurd (sk_disj w hb' hb q hx) eb
      have m2 : ∀ x, x ∈ rk (hubF cs) ((rowF L cs b).set i t.1) → x ∈ rk (hubF cs) (rowF L cs b) := fun x hx => by
        have hx' : x ∈ rk (hubF (cs.set t.2 t.1)) (rowF L (cs.set t.2 t.1) b) := by rw [hh, hrow]; exact hx
        have hxk := sk_lt w' hb hx'
        have hxh : x ≠ hubF cs := fun z => by
          rw [z] at hx
          exact (List.nodup_cons.mp hn).1 hx
        rcases sk_all w hxk with q | ⟨b', hb', q⟩
        · exact absurd q hxh
        · by_cases eb : b' = b
          · rw [eb] at q
            exact q
          · have q' : x ∈ rk (hubF (cs.set t.2 t.1)) (rowF L (cs.set t.2 t.1) b') := by rw [hh, other b' hb' eb]; exact q
            exact absurd (sk_disj w' hb' hb q' hx') eb
      have a1 : (rk (hubF cs) (rowF L cs b)).all (fun x => (rk (hubF cs) ((rowF L cs b).set i t.1)).contains x) = true := List.all_eq_true.mpr fun x hx => by simpa using m1 x hx
      have a2 : (rk (hubF cs) ((rowF L cs b).set i t.1)).all (fun x => (rk (hubF cs) (rowF L cs b)).contains x) = true := List.all_eq_true.mpr fun x hx => by simpa using m2 x hx
      rw [a1, a2, decide_eq_true hn] at g
      cases g
    · simpa using g
  · rfl
/-- a hub is taken only where no two arms are bare -/
theorem hub_take {A L k : Nat} {cs : List Nat} {l : Nat} (w : Wf A L k cs) (h : (l, 0) ∈ takF A L k cs) : bareF A L cs ≤ 1 := by
  obtain ⟨h1, h2, h3⟩ := tak_iff.mp h
  obtain ⟨m1, m2, m3⟩ := made_iff.mp h3
  rcases Nat.lt_or_ge 1 (bareF A L cs) with hb | hb
  · exfalso
    rw [← held_rest h2 m1] at m3
    obtain ⟨r, _, hu⟩ := hang_rt.mp m3
    have hL := w.L1
    -- the first cell of a bare arm is a root of what is left
    have key : ∀ a, a < A → (rowF L cs a).all (fun x => x == hubF cs) = true → 1 + a * L = r := fun a ha hall => by
      refine hu _ ⟨by rw [List.length_set, w.len]; have := cell_lt ha hL; omega, ?_, .inr ?_⟩
      · show (cs.set 0 l).getD (1 + a * L) 0 = _
        rw [getD_set h2, if_neg (by omega)]
        have hg := row_get w.len ha hL
        have := List.all_eq_true.mp hall _ (List.mem_of_getElem? hg)
        have e : cs.getD (1 + a * L + 0) 0 = hubF cs := by simpa using this
        exact e
      · have e := inn_row (L := L) (a := a) (i := 0) hL
        rw [if_pos rfl] at e
        show (cs.set 0 l).getD (innF L (1 + a * L)) 0 ≠ _
        rw [show innF L (1 + a * L) = 0 from e, getD_set h2, if_pos rfl]
        exact m1.symm
    unfold bareF at hb
    match hf : (List.range A).filter (fun a => (rowF L cs a).all fun x => x == hubF cs) with
    | [] => rw [hf] at hb; simp at hb
    | [_] => rw [hf] at hb; simp at hb
    | a :: b :: rest =>
      have ha := List.mem_filter.mp (show a ∈ (List.range A).filter _ by rw [hf]; simp)
      have hb' := List.mem_filter.mp (show b ∈ (List.range A).filter _ by rw [hf]; simp)
      have e1 := key a (List.mem_range.mp ha.1) ha.2
      have e2 := key b (List.mem_range.mp hb'.1) hb'.2
      have hab : a = b := (cell_inj (i := 0) (j := 0) hL hL (by omega)).1
      have nd : ((List.range A).filter fun a => (rowF L cs a).all fun x => x == hubF cs).Nodup := List.nodup_range.filter _
      rw [hf, hab] at nd
      simp at nd
  · exact hb
/-- what the key tells -/
def KeyEq (A L : Nat) (cs cs2 : List Nat) : Prop := (1 < bareF A L cs ∧ 1 < bareF A L cs2 ∧ hubF cs = hubF cs2 ∧ skF A L cs = skF A L cs2) ∨ (bareF A L cs ≤ 1 ∧ bareF A L cs2 ≤ 1 ∧ tipsF A L cs = tipsF A L cs2)
theorem key_take {A L k : Nat} {cs : List Nat} {t : Nat × Nat} (w : Wf A L k cs) (h : t ∈ takF A L k cs) : KeyEq A L cs (cs.set t.2 t.1) := by
  have w' := w.take h
  by_cases h0 : t.2 = 0
  · right
    obtain ⟨l, c⟩ := t
    simp only at h0 h w' ⊢
    subst h0
    have hb := tak_back w h
    refine ⟨hub_take w h, hub_take w' hb.1, ?_⟩
    unfold tipsF
    refine List.map_congr_left fun a _ => ?_
    have h2 := (tak_iff.mp h).2.1
    rw [getD_set h2, if_neg]
    have hL := w.L1
    have : 0 < (a + 1) * L := Nat.mul_pos (by omega) (by omega)
    omega
  · obtain ⟨e1, e2⟩ := sk_take w h h0
    have hb : bareF A L (cs.set t.2 t.1) = bareF A L cs := by rw [bare_sk w', bare_sk w, e2]
    rcases Nat.lt_or_ge 1 (bareF A L cs) with q | q
    · exact .inl ⟨q, by rw [hb]; exact q, e1.symm, e2.symm⟩
    · exact .inr ⟨q, by rw [hb]; exact q, by rw [tips_sk w', tips_sk w, e1, e2]⟩
theorem KeyEq.trans {A L : Nat} {a b c : List Nat} (h : KeyEq A L a b) (h2 : KeyEq A L b c) : KeyEq A L a c := by
  rcases h with ⟨p1, p2, p3, p4⟩ | ⟨p1, p2, p3⟩
  · rcases h2 with ⟨q1, q2, q3, q4⟩ | ⟨q1, q2, q3⟩
    · exact .inl ⟨p1, q2, p3.trans q3, p4.trans q4⟩
    · omega
  · rcases h2 with ⟨q1, q2, q3, q4⟩ | ⟨q1, q2, q3⟩
    · omega
    · exact .inr ⟨p1, q2, p3.trans q3⟩
theorem KeyEq.refl {A L : Nat} (a : List Nat) : KeyEq A L a a := by
  rcases Nat.lt_or_ge 1 (bareF A L a) with q | q
  · exact .inl ⟨q, q, rfl, rfl⟩
  · exact .inr ⟨q, q, rfl⟩
end SL

/-! plain: maps of one key reach each other -/
namespace SL
inductive Cn (A L k : Nat) : List Nat → List Nat → Prop
  | refl (a : List Nat) : Cn A L k a a
  | step {a b : List Nat} {t : Nat × Nat} : Cn A L k a b → t ∈ takF A L k b → Cn A L k a (b.set t.2 t.1)
section
variable {A L k : Nat} {a b c : List Nat}
theorem Cn.trans (h : Cn A L k a b) (h2 : Cn A L k b c) : Cn A L k a c := by
  induction h2 with
  | refl => exact h
  | step _ ht ih => exact .step ih ht
theorem Cn.wf (h : Cn A L k a b) (w : Wf A L k a) : Wf A L k b := by
  induction h with
  | refl => exact w
  | step _ ht ih => exact ih.take ht
theorem Cn.back (h : Cn A L k a b) (w : Wf A L k a) : Cn A L k b a := by
  induction h with
  | refl => exact .refl _
  | @step b t h1 ht ih =>
    obtain ⟨g1, g2⟩ := tak_back (h1.wf w) ht
    have := Cn.step (.refl _) g1
    rw [g2] at this
    exact this.trans ih
theorem Cn.key (h : Cn A L k a b) (w : Wf A L k a) : KeyEq A L a b := by
  induction h with
  | refl => exact .refl _
  | step h1 ht ih => exact ih.trans (key_take (h1.wf w) ht)
end
/-- a border is pushed outwards -/
theorem push_tak {A L k : Nat} {cs : List Nat} (w : Wf A L k cs) {a i : Nat} (ha : a < A) (hi : i + 1 < L) (h1 : cs.getD (1 + a * L + i) 0 ≠ cs.getD (innF L (1 + a * L + i)) 0) (h2 : cs.getD (1 + a * L + (i + 1)) 0 = cs.getD (1 + a * L + i) 0) : (cs.getD (innF L (1 + a * L + i)) 0, 1 + a * L + i) ∈ takF A L k cs := by
  have hL := w.L1
  have hlen := w.len
  have hc : 1 + a * L + i < cs.length := by rw [hlen]; exact cell_lt ha (by omega)
  have hc1 : 1 + a * L + (i + 1) < cs.length := by rw [hlen]; exact cell_lt ha hi
  have hin := inn_lt (L := L) (c := 1 + a * L + i) (by omega)
  have hmem : innF L (1 + a * L + i) ∈ nearF A L (1 + a * L + i) := (mem_near hL (by omega) (by omega)).mpr (.inl ⟨by omega, rfl⟩)
  refine tak_iff.mpr ⟨w.at_lt (by omega), hc, made_iff.mpr ⟨h1, ⟨_, hmem, rfl⟩, ?_⟩⟩
  show hangF L ((heldF cs (cs.getD (1 + a * L + i) 0)).filter fun o => o != 1 + a * L + i) = true
  rw [← held_rest hc h1, hang_rt]
  have e1 : innF L (1 + a * L + (i + 1)) = 1 + a * L + i := by
    rw [inn_row hi, if_neg (Nat.succ_ne_zero i)]
    omega
  have hroot : Rt L cs (cs.getD (1 + a * L + i) 0) (1 + a * L + i) := ⟨hc, rfl, .inr h1.symm⟩
  refine ⟨1 + a * L + (i + 1), ⟨by rw [List.length_set]; exact hc1, ?_, .inr ?_⟩, fun d hd => ?_⟩
  · rw [getD_set hc, if_neg (by omega)]
    exact h2
  · rw [e1, getD_set hc, if_pos rfl]
    exact h1.symm
  · obtain ⟨g1, g2, g3⟩ := hd
    rw [List.length_set] at g1
    have hdc : d ≠ 1 + a * L + i := fun z => by
      rw [z, getD_set hc, if_pos rfl] at g2
      exact h1 g2.symm
    rw [getD_set hc, if_neg hdc] at g2
    by_cases e : innF L d = 1 + a * L + i
    · have hd0 : d ≠ 0 := fun z => by
        rw [z] at e
        have h9 : innF L 0 = 0 := by unfold innF; simp
        rw [h9] at e
        omega
      unfold innF at e
      split at e
      · omega
      · omega
    · exfalso
      have : Rt L cs (cs.getD (1 + a * L + i) 0) d := by
        refine ⟨g1, g2, ?_⟩
        rcases g3 with g3 | g3
        · exact .inl g3
        · rw [getD_set hc, if_neg e] at g3
          exact .inr g3
      exact hdc (w.uniq this hroot)
def mu : Nat → List Nat → Nat
  | _, [] => 0
  | p, y :: ys => (if y = p then 0 else ys.length + 1) + mu y ys
def nfR (L h : Nat) (l : List Nat) : List Nat := List.replicate (L - l.length) h ++ l
def nfB (L : Nat) : Bool := (List.range 4).all fun h => (rowsV L h).all fun r => (r == nfR L h (rk h r)) || (List.range L).any fun i =>
  decide (i + 1 < L) && (r.getD i 0 != (h :: r).getD i 0) && (r.getD (i + 1) 0 == r.getD i 0) && decide (mu h (r.set i ((h :: r).getD i 0)) < mu h r)
theorem nfB_ok : ∀ L, L < 4 → nfB L = true := by decide +kernel
def nfM (L h : Nat) (sk : List (List Nat)) : List Nat := h :: (sk.map (nfR L h)).flatten
def muM (A L : Nat) (cs : List Nat) : Nat := sumBy (fun a => mu (hubF cs) (rowF L cs a)) (List.range A)
theorem to_nf {A L k : Nat} : ∀ (n : Nat) (cs : List Nat), muM A L cs ≤ n → Wf A L k cs → Cn A L k cs (nfM L (hubF cs) (skF A L cs)) := by
  intro n
  induction n with
  | zero =>
    intro cs hm w
    exact aux 0 cs hm w (fun cs' h _ _ => absurd h (by omega))
  | succ n ih => exact fun cs hm w => aux (n + 1) cs hm w fun cs' h w' _ => ih cs' (by omega) w'
where
  aux {A L k : Nat} (n : Nat) (cs : List Nat) (hm : muM A L cs ≤ n) (w : Wf A L k cs) (ih : ∀ cs', muM A L cs' < n → Wf A L k cs' → True → Cn A L k cs' (nfM L (hubF cs') (skF A L cs'))) : Cn A L k cs (nfM L (hubF cs) (skF A L cs)) := by
    rcases Classical.em (∀ a, a < A → rowF L cs a = nfR L (hubF cs) (rk (hubF cs) (rowF L cs a))) with hall | hno
    · have : nfM L (hubF cs) (skF A L cs) = cs := by
        conv => rhs; rw [rows_eq w.len]
        unfold nfM skF
        rw [List.map_map]
        congr 2
        exact List.map_congr_left fun a ha => (hall a (List.mem_range.mp ha)).symm
      rw [this]
      exact .refl _
    · obtain ⟨a, hna⟩ := Classical.not_forall.mp hno
      obtain ⟨ha, hne⟩ := Classical.not_imp.mp hna
      have h := nfB_ok L (by have := w.L3; omega)
      unfold nfB at h
      have h1 := List.all_eq_true.mp (List.all_eq_true.mp h _ (List.mem_range.mpr (hub4 w))) _ (row_in w ha)
      rw [Bool.or_eq_true] at h1
      rcases h1 with h1 | h1
      · exact absurd (by simpa using h1) hne
      · obtain ⟨i, hiL, h2⟩ := List.any_eq_true.mp h1
        have hiL := List.mem_range.mp hiL
        rw [Bool.and_eq_true, Bool.and_eq_true, Bool.and_eq_true] at h2
        obtain ⟨⟨⟨g1, g2⟩, g3⟩, g4⟩ := h2
        have g1 : i + 1 < L := by simpa using g1
        have hr0 : (rowF L cs a).getD i 0 = cs.getD (1 + a * L + i) 0 := by
          rw [List.getD_eq_getElem?_getD, row_get w.len ha hiL]
          rfl
        have hr1 : (rowF L cs a).getD (i + 1) 0 = cs.getD (1 + a * L + (i + 1)) 0 := by
          rw [List.getD_eq_getElem?_getD, row_get w.len ha g1]
          rfl
        have hp : (hubF cs :: rowF L cs a).getD i 0 = cs.getD (innF L (1 + a * L + i)) 0 := by
          rw [inn_row hiL]
          cases i with
          | zero => rfl
          | succ i =>
            rw [if_neg (Nat.succ_ne_zero i), List.getD_eq_getElem?_getD, List.getElem?_cons_succ, row_get w.len ha (by omega)]
            show cs.getD _ 0 = cs.getD _ 0
            congr 1
        rw [hp] at g2 g4
        rw [hr0] at g2 g3
        rw [hr1] at g3
        have ht := push_tak w ha g1 (by simpa using g2) (by simpa using g3)
        have g4 : mu (hubF cs) ((rowF L cs a).set i (cs.getD (innF L (1 + a * L + i)) 0)) < mu (hubF cs) (rowF L cs a) := by simpa using g4
        obtain ⟨e1, e2⟩ := sk_take w ht (by show 1 + a * L + i ≠ 0; omega)
        have w' := w.take ht
        have hlt : muM A L (cs.set (1 + a * L + i) (cs.getD (innF L (1 + a * L + i)) 0)) < muM A L cs := by
          unfold muM
          refine sumBy_lt (a := a) (fun b hb => ?_) (List.mem_range.mpr ha) ?_
          · have hb := List.mem_range.mp hb
            show mu (hubF (cs.set _ _)) _ ≤ _
            rw [show hubF (cs.set (1 + a * L + i) (cs.getD (innF L (1 + a * L + i)) 0)) = hubF cs from e1, row_set w.len ha hiL hb]
            split
            · rename_i eb
              rw [eb]
              exact Nat.le_of_lt g4
            · exact Nat.le_refl _
          · show mu (hubF (cs.set _ _)) _ < _
            rw [show hubF (cs.set (1 + a * L + i) (cs.getD (innF L (1 + a * L + i)) 0)) = hubF cs from e1, row_set w.len ha hiL ha, if_pos rfl]
            exact g4
        have hrec := ih _ (Nat.lt_of_lt_of_le hlt hm) w' trivial
        rw [show hubF (cs.set (1 + a * L + i) (cs.getD (innF L (1 + a * L + i)) 0)) = hubF cs from e1, show skF A L (cs.set (1 + a * L + i) (cs.getD (innF L (1 + a * L + i)) 0)) = skF A L cs from e2] at hrec
        exact (Cn.step (.refl _) ht).trans hrec

/-! ### the maps that are not frozen: by a way that is checked -/
def splitBy : List Nat → List Nat → List (List Nat)
  | [], _ => []
  | n :: ns, l => l.take n :: splitBy ns (l.drop n)
theorem split_flat : ∀ sk : List (List Nat), splitBy (sk.map List.length) sk.flatten = sk
  | [] => rfl
  | l :: sk => by
    rw [List.map_cons, List.flatten_cons, splitBy, List.take_left, List.drop_left, split_flat sk]
def pullsF (L a : Nat) (l : List Nat) : List (Nat × Nat) := match l with
  | [] => []
  | x :: _ => ((List.range (L - l.length)).reverse).map fun i => (x, 1 + a * L + i)
def pathF (A L k h : Nat) (sk : List (List Nat)) : List (Nat × Nat) :=
  ((List.range A).flatMap fun a => pullsF L a (sk.getD a [])) ++
  (if k = A then (if h = (sk.getD 0 []).getLastD h then [] else [((sk.getD 0 []).getLastD h, 0)])
   else match (List.range A).find? fun a => (sk.getD a []).length == 2 with
    | none => []
    | some b => ((sk.getD b []).getD 0 0, 0) :: ((List.range (L - 1)).reverse).map fun i => ((sk.getD b []).getD 1 0, 1 + b * L + i))
def canonF (A L k : Nat) (tips : List Nat) : List Nat := (if k = A then tips.getD 0 0 else ((List.range k).find? fun x => !tips.contains x).getD 0) :: (tips.map fun t => List.replicate L t).flatten
def runF (A L k : Nat) : List Nat → List (Nat × Nat) → Option (List Nat)
  | cs, [] => some cs
  | cs, t :: ts => if decide (t.1 < k) && decide (t.2 < cs.length) && madeF A L cs t.1 t.2 then runF A L k (cs.set t.2 t.1) ts else none
theorem run_ok {A L k : Nat} : ∀ (ts : List (Nat × Nat)) (cs cs' : List Nat), runF A L k cs ts = some cs' → Cn A L k cs cs'
  | [], cs, cs', h => by
    rw [runF] at h
    cases h
    exact .refl _
  | t :: ts, cs, cs', h => by
    rw [runF] at h
    split at h
    · rename_i g
      rw [Bool.and_eq_true, Bool.and_eq_true] at g
      exact (Cn.step (.refl _) (tak_iff.mpr ⟨by simpa using g.1.1, by simpa using g.1.2, g.2⟩)).trans (run_ok ts _ _ h)
    · cases h
def skelB (A L k : Nat) : Bool := (rowsAll k).all fun q => !(decide q.Nodup && q.all (fun x => decide (x < k))) || (rowsAll A).all fun ls => !(ls.sum == k - 1 && ls.all (fun n => decide (n ≤ L)) && decide ((ls.filter (· == 0)).length ≤ 1)) ||
  runF A L k (nfM L (q.getD 0 0) (splitBy ls (q.drop 1))) (pathF A L k (q.getD 0 0) (splitBy ls (q.drop 1))) == some (canonF A L k ((splitBy ls (q.drop 1)).map fun l => l.getLastD (q.getD 0 0)))
theorem skel3 : ∀ L, L < 4 → ∀ k, k ≤ L + 1 → skelB 3 L k = true := by decide +kernel
theorem skel4 : ∀ L, L < 4 → ∀ k, k ≤ L + 1 → skelB 4 L k = true := by decide +kernel
end SL

/-! the facts of the mathematics -/
namespace SL
theorem rk_len : ∀ (r : List Nat) (p : Nat), (rk p r).length ≤ r.length
  | [], p => by simp [rk]
  | y :: ys, p => by
    have := rk_len ys y
    rw [rk]
    split
    · simp only [List.length_cons]; omega
    · simp only [List.length_cons]; omega
theorem canon_conn {A L k : Nat} {cs : List Nat} (w : Wf A L k cs) (hb : bareF A L cs ≤ 1) : Cn A L k cs (canonF A L k (tipsF A L cs)) := by
  have hnf := to_nf _ cs (Nat.le_refl _) w
  have hp := sk_perm w
  have hk4 : k ≤ 4 := by have := w.kL; have := w.L3; omega
  have hs : skelB A L k = true := by
    have h3 := w.A3
    have h4 := w.A4
    rcases (show A = 3 ∨ A = 4 by omega) with e | e
    · rw [e]; exact skel3 L (by have := w.L3; omega) k w.kL
    · rw [e]; exact skel4 L (by have := w.L3; omega) k w.kL
  have hql : (hubF cs :: (skF A L cs).flatten).length = k := by rw [hp.length_eq, List.length_range]
  have hqm : ∀ x, x ∈ hubF cs :: (skF A L cs).flatten → x < k := fun x hx => List.mem_range.mp (hp.mem_iff.mp hx)
  have hqn : (hubF cs :: (skF A L cs).flatten).Nodup := hp.nodup_iff.mpr List.nodup_range
  have hq : hubF cs :: (skF A L cs).flatten ∈ rowsAll k := by
    have := rowsAll_mem (r := hubF cs :: (skF A L cs).flatten) fun x hx => by have := hqm x hx; omega
    rw [hql] at this
    exact this
  have hll : ∀ n, n ∈ (skF A L cs).map List.length → n ≤ L := fun n hn => by
    obtain ⟨l, hl, rfl⟩ := List.mem_map.mp hn
    obtain ⟨a, ha, rfl⟩ := List.mem_map.mp hl
    have := rk_len (rowF L cs a) (hubF cs)
    rw [row_len w.len (List.mem_range.mp ha)] at this
    exact this
  have hls : (skF A L cs).map List.length ∈ rowsAll A := by
    have := rowsAll_mem (r := (skF A L cs).map List.length) fun n hn => by have := hll n hn; have := w.L3; omega
    rw [List.length_map, show (skF A L cs).length = A by simp [skF]] at this
    exact this
  have hsum : ((skF A L cs).map List.length).sum = k - 1 := by
    rw [← List.length_flatten]
    simp only [List.length_cons] at hql
    omega
  have hbare : (((skF A L cs).map List.length).filter (· == 0)).length ≤ 1 := by
    rw [bare_sk w] at hb
    rw [List.filter_map, List.length_map]
    refine Nat.le_trans (Nat.le_of_eq ?_) hb
    congr 1
    refine List.filter_congr fun l _ => ?_
    cases l <;> rfl
  unfold skelB at hs
  have h1 := List.all_eq_true.mp hs _ hq
  rw [Bool.or_eq_true] at h1
  rcases h1 with h1 | h1
  · exfalso
    have a1 : (hubF cs :: (skF A L cs).flatten).all (fun x => decide (x < k)) = true := List.all_eq_true.mpr fun x hx => by simpa using hqm x hx
    rw [a1, decide_eq_true hqn] at h1
    cases h1
  · have h2 := List.all_eq_true.mp h1 _ hls
    rw [Bool.or_eq_true] at h2
    rcases h2 with h2 | h2
    · exfalso
      have a1 : ((skF A L cs).map List.length).all (fun n => decide (n ≤ L)) = true := List.all_eq_true.mpr fun n hn => by simpa using hll n hn
      rw [a1, decide_eq_true hbare, hsum] at h2
      simp at h2
    · rw [show (hubF cs :: (skF A L cs).flatten).getD 0 0 = hubF cs from rfl, show (hubF cs :: (skF A L cs).flatten).drop 1 = (skF A L cs).flatten from rfl, split_flat, ← tips_sk w] at h2
      have h3 := run_ok _ _ _ (by simpa using h2)
      exact hnf.trans h3
theorem conn_key {A L k : Nat} {cs cs2 : List Nat} (w : Wf A L k cs) (w2 : Wf A L k cs2) : Cn A L k cs cs2 ↔ KeyEq A L cs cs2 := by
  constructor
  · exact fun h => h.key w
  · rintro (⟨_, _, h3, h4⟩ | ⟨h1, h2, h3⟩)
    · have g1 := to_nf _ cs (Nat.le_refl _) w
      have g2 := to_nf _ cs2 (Nat.le_refl _) w2
      rw [← h3, ← h4] at g2
      exact g1.trans (g2.back w2)
    · have g1 := canon_conn w h1
      have g2 := canon_conn w2 h2
      rw [← h3] at g2
      exact g1.trans (g2.back w2)

/-! ### ways -/
theorem way_conn {A L k : Nat} {cs : List Nat} {m : Map} {v : Lab} (h : Way (outM A L k) (A, cs) m v) : m.1 = A ∧ Cn A L k cs m.2 := by
  induction h with
  | refl => exact ⟨rfl, .refl _⟩
  | step h1 h2 ih =>
    obtain ⟨t, ht, e⟩ := List.mem_map.mp h2
    cases e
    exact ⟨ih.1, .step ih.2 ht⟩
theorem conn_way {A L k : Nat} {cs cs2 : List Nat} (h : Cn A L k cs cs2) : ∃ v, Way (outM A L k) (A, cs) (A, cs2) v := by
  induction h with
  | refl => exact ⟨_, .refl⟩
  | @step b t _ ht ih =>
    obtain ⟨v, hv⟩ := ih
    exact ⟨_, Way.step (t := v.1) (n := v.2) hv (List.mem_map.mpr ⟨t, ht, rfl⟩)⟩
theorem nd_inj {a b : Nat} (h : nd a = nd b) : a = b := by
  unfold nd at h
  injection h with h
  exact Int.ofNat.inj h
theorem lnd_inj {a b : List Nat} (h : lnd a = lnd b) : a = b := by
  unfold lnd at h
  injection h with h
  exact List.map_inj_right (fun _ _ => nd_inj) |>.mp h
theorem key_iff {A L k : Nat} {cs cs2 : List Nat} (w : Wf A L k cs) (w2 : Wf A L k cs2) : keyD A L k cs = keyD A L k cs2 ↔ KeyEq A L cs cs2 := by
  unfold keyD KeyEq
  rw [ords_sk w, ords_sk w2]
  by_cases h1 : 1 < bareF A L cs
  · rw [if_pos h1]
    by_cases h2 : 1 < bareF A L cs2
    · rw [if_pos h2]
      constructor
      · intro e
        injection e with e
        injection e with _ e
        injection e with _ e
        injection e with _ e
        injection e with e1 e
        injection e with e2 _
        injection e2 with e2
        exact .inl ⟨h1, h2, nd_inj e1, List.map_inj_right (fun _ _ => lnd_inj) |>.mp e2⟩
      · rintro (⟨_, _, e1, e2⟩ | ⟨q, _⟩)
        · rw [e1, e2, w.len, w2.len]
        · omega
    · rw [if_neg h2]
      constructor
      · intro e
        injection e with e
        have := congrArg List.length e
        simp at this
      · rintro (⟨_, q, _⟩ | ⟨q, _⟩)
        · exact absurd q h2
        · omega
  · rw [if_neg h1]
    by_cases h2 : 1 < bareF A L cs2
    · rw [if_pos h2]
      constructor
      · intro e
        injection e with e
        have := congrArg List.length e
        simp at this
      · rintro (⟨q, _⟩ | ⟨_, q, _⟩)
        · exact absurd q h1
        · omega
    · rw [if_neg h2]
      constructor
      · intro e
        injection e with e
        injection e with _ e
        injection e with _ e
        injection e with _ e
        injection e with e1 _
        exact .inr ⟨by omega, by omega, lnd_inj e1⟩
      · rintro (⟨q, _⟩ | ⟨_, _, e⟩)
        · exact absurd q h1
        · rw [e, w.len, w2.len]
theorem facts : Facts where
  gw := fun {A L k cs} w => ⟨univ A L, by
    have hwf : ∀ m v, Way (outM A L k) (A, cs) m v → m.1 = A ∧ Wf A L k m.2 := fun m v h => ⟨(way_conn h).1, (way_conn h).2.wf w⟩
    refine ⟨⟨fun m v h => ?_, fun m v e h he => ?_⟩, univ_len w.A4 w.L3, hwf⟩
    · obtain ⟨h1, h2⟩ := hwf m v h
      have := univ_mem h2
      rw [← h1] at this ⊢
      exact this
    · obtain ⟨h1, h2⟩ := hwf m v h
      obtain ⟨t, ht, rfl⟩ := List.mem_map.mp he
      intro z
      obtain ⟨g1, g2, g3⟩ := tak_iff.mp ht
      have h3 : m.2.set t.2 t.1 = m.2 := congrArg Prod.snd z
      have := (made_iff.mp g3).1
      rw [← h3, getD_set g2, if_pos rfl] at this
      exact this rfl⟩
  key := fun {A L k cs cs2 R} w w2 g c => by
    unfold eqD
    rw [Bool.eq_iff_iff, eqv_num _ _ (key_num A L k cs) (key_num A L k cs2), key_iff w w2, ← conn_key w w2]
    constructor
    · intro h
      obtain ⟨v, hv⟩ := conn_way h
      obtain ⟨u, hu, _⟩ := g.least c hv
      rw [hu]
      rfl
    · intro h
      obtain ⟨v, hv⟩ := Option.isSome_iff_exists.mp h
      exact (way_conn (g.snd _ v hv)).2
end SL

open PySem PySem.W PyProof.Rows in
set_option maxRecDepth 100000 in
set_option maxHeartbeats 0 in
theorem PySem.Challenge.cw_starlands_k06_whole_turns_holds : PySem.Challenge.rw_starlands_k06_whole_turns.Holds := by
  w_on; o_law; k_head; (case hw => w_witness2)
  k_fill
  refine SL.walk (l := PySem.Challenge.rw_starlands_k06_whole_turns) rfl rfl ?r1 ?r2 ?r3 (fun w h Y => PySem.W.kIn_of Y) ?F
  case r1 => decide +kernel
  case r2 => decide +kernel
  case r3 => decide +kernel
  case F =>
    intro w mg fa h KX G hmg
    refine' SL.all_mk SL.facts KX G hmg ?a1 ?l1 ?c1_ ?k1 ?a2 ?l2 ?c2_ ?k2 ?a3 ?l3 ?c3_ ?k3 ?a4 ?l4 ?c4_ ?k4 ?a5 ?l5 ?c5_ ?k5 ?a6 ?l6 ?c6_ ?k6 ?a7 ?l7 ?c7_ ?k7 ?a8 ?l8 ?c8_ ?k8 ?a9 ?l9 ?c9_ ?k9 ?a10 ?l10 ?c10_ ?k10 ?a11 ?l11 ?c11_ ?k11 ?a12 ?l12 ?c12_ ?k12 ?a13 ?l13 ?c13_ ?k13 ?a14 ?l14 ?c14_ ?k14 ?a15 ?l15 ?c15_ ?k15 ?a16 ?l16 ?c16_ ?k16 ?a17 ?l17 ?c17_ ?k17 ?a18 ?l18 ?c18_ ?k18 ?a19 ?l19 ?c19_ ?k19 ?a20 ?l20 ?c20_ ?k20 ?a21 ?l21 ?c21_ ?k21 ?a22 ?l22 ?c22_ ?k22 ?a23 ?l23 ?c23_ ?k23 ?a24 ?l24 ?c24_ ?k24 ?a25 ?l25 ?c25_ ?k25 ?a26 ?l26 ?c26_ ?k26 ?a27 ?l27 ?c27_ ?k27 ?a28 ?l28 ?c28_ ?k28 ?a29 ?l29 ?c29_ ?k29 ?a30 ?l30 ?c30_ ?k30 ?a31 ?l31 ?c31_ ?k31 ?a32 ?l32 ?c32_ ?k32 ?a33 ?l33 ?c33_ ?k33 ?a34 ?l34 ?c34_ ?k34 ?a35 ?l35 ?c35_ ?k35 ?a36 ?l36 ?c36_ ?k36 ?z1 ?z2 ?z3 ?z4 ?z5 ?z6 ?z7 ?z8 ?z9 ?z10 ?z11 ?z12 ?z13 ?y1 ?y2 ?y3 ?q1 ?v1 ?q2 ?v2 ?q3 ?v3 ?n1 ?n2 ?n3
    (case a1 => k_is)
    (case l1 => k_is)
    (case c1_ => k_is)
    (case k1 => k_is)
    (case a2 => k_is)
    (case l2 => k_is)
    (case c2_ => k_is)
    (case k2 => k_is)
    (case a3 => k_is)
    (case l3 => k_is)
    (case c3_ => k_is)
    (case k3 => k_is)
    (case a4 => k_is)
    (case l4 => k_is)
    (case c4_ => k_is)
    (case k4 => k_is)
    (case a5 => k_is)
    (case l5 => k_is)
    (case c5_ => k_is)
    (case k5 => k_is)
    (case a6 => k_is)
    (case l6 => k_is)
    (case c6_ => k_is)
    (case k6 => k_is)
    (case a7 => k_is)
    (case l7 => k_is)
    (case c7_ => k_is)
    (case k7 => k_is)
    (case a8 => k_is)
    (case l8 => k_is)
    (case c8_ => k_is)
    (case k8 => k_is)
    (case a9 => k_is)
    (case l9 => k_is)
    (case c9_ => k_is)
    (case k9 => k_is)
    (case a10 => k_is)
    (case l10 => k_is)
    (case c10_ => k_is)
    (case k10 => k_is)
    (case a11 => k_is)
    (case l11 => k_is)
    (case c11_ => k_is)
    (case k11 => k_is)
    (case a12 => k_is)
    (case l12 => k_is)
    (case c12_ => k_is)
    (case k12 => k_is)
    (case a13 => k_is)
    (case l13 => k_is)
    (case c13_ => k_is)
    (case k13 => k_is)
    (case a14 => k_is)
    (case l14 => k_is)
    (case c14_ => k_is)
    (case k14 => k_is)
    (case a15 => k_is)
    (case l15 => k_is)
    (case c15_ => k_is)
    (case k15 => k_is)
    (case a16 => k_is)
    (case l16 => k_is)
    (case c16_ => k_is)
    (case k16 => k_is)
    (case a17 => k_is)
    (case l17 => k_is)
    (case c17_ => k_is)
    (case k17 => k_is)
    (case a18 => k_is)
    (case l18 => k_is)
    (case c18_ => k_is)
    (case k18 => k_is)
    (case a19 => k_is)
    (case l19 => k_is)
    (case c19_ => k_is)
    (case k19 => k_is)
    (case a20 => k_is)
    (case l20 => k_is)
    (case c20_ => k_is)
    (case k20 => k_is)
    (case a21 => k_is)
    (case l21 => k_is)
    (case c21_ => k_is)
    (case k21 => k_is)
    (case a22 => k_is)
    (case l22 => k_is)
    (case c22_ => k_is)
    (case k22 => k_is)
    (case a23 => k_is)
    (case l23 => k_is)
    (case c23_ => k_is)
    (case k23 => k_is)
    (case a24 => k_is)
    (case l24 => k_is)
    (case c24_ => k_is)
    (case k24 => k_is)
    (case a25 => k_is)
    (case l25 => k_is)
    (case c25_ => k_is)
    (case k25 => k_is)
    (case a26 => k_is)
    (case l26 => k_is)
    (case c26_ => k_is)
    (case k26 => k_is)
    (case a27 => k_is)
    (case l27 => k_is)
    (case c27_ => k_is)
    (case k27 => k_is)
    (case a28 => k_is)
    (case l28 => k_is)
    (case c28_ => k_is)
    (case k28 => k_is)
    (case a29 => k_is)
    (case l29 => k_is)
    (case c29_ => k_is)
    (case k29 => k_is)
    (case a30 => k_is)
    (case l30 => k_is)
    (case c30_ => k_is)
    (case k30 => k_is)
    (case a31 => k_is)
    (case l31 => k_is)
    (case c31_ => k_is)
    (case k31 => k_is)
    (case a32 => k_is)
    (case l32 => k_is)
    (case c32_ => k_is)
    (case k32 => k_is)
    (case a33 => k_is)
    (case l33 => k_is)
    (case c33_ => k_is)
    (case k33 => k_is)
    (case a34 => k_is)
    (case l34 => k_is)
    (case c34_ => k_is)
    (case k34 => k_is)
    (case a35 => k_is)
    (case l35 => k_is)
    (case c35_ => k_is)
    (case k35 => k_is)
    (case a36 => k_is)
    (case l36 => k_is)
    (case c36_ => k_is)
    (case k36 => k_is)
    (case z1 => k_is)
    (case z2 => k_is)
    (case z3 => k_is)
    (case z4 => k_is)
    (case z5 => k_is)
    (case z6 => k_is)
    (case z7 => k_is)
    (case z8 => k_is)
    (case z9 => k_is)
    (case z10 => k_is)
    (case z11 => k_is)
    (case z12 => k_is)
    (case z13 => k_is)
    (case y1 => k_is)
    (case y2 => k_is)
    (case y3 => k_is)
    (case q1 => k_is)
    (case v1 => rfl)
    (case q2 => k_is)
    (case v2 => rfl)
    (case q3 => k_is)
    (case v3 => rfl)
    (case n1 => first | kernel_rfl | rfl | decide +kernel)
    (case n2 => first | kernel_rfl | rfl | decide +kernel)
    (case n3 => first | kernel_rfl | rfl | decide +kernel)
