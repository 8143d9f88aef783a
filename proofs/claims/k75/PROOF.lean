import PyProof.Rows.All
import Wide.All
import OpenK.AllK
import Wide.FinOn
import HandS.ForMost
import HandS.GenList
import HandS.AnyAll
import HandS.EndTab
import PyProof.TupleOfGen
import HandS.SortOrd
import HandS.SortInts
import HandS.Wide
import HandS.TupAny
import HandS.Conv
import HandS.TupMul
import HandS.IsInst
import HandS.Iter
import KE.GoesEnum
import HandS.DictComp
import HandS.Small
import HandS.Style
import HandS.More
import HandS.WordsDict
import OpenK.KMore
import PySem.Challenge.RW_roundladder_k75_whole_rests_handed_on
set_option Elab.async false
set_option linter.all false
set_option maxRecDepth 100000
set_option maxHeartbeats 2000000
/-! Gx: generator expressions over the hand layer: a segment with a ghost state. -/
namespace Gx
open PySem PySem.Spec PyProof.Rows L2 GenW

section
variable {γ : Type} (M : Model) (A : Around) (R : Nat → γ → Result → Shared → Prop) (Y : Nat → γ → Value → Shared → (γ → Shared → Prop) → Prop)
/-- a run up to the next yield or the end, by a ghost state -/
def SegG : Nat → γ → Code → Sem PySem.Fin → List Frame → Shared → Prop
  | 0 => fun x c t fs s => ∀ Γ p, Γ.code = c → Γ.Woken A → ∃ r s', Runs M Γ p t fs s (.ret r) s' ∧ R 0 x r s'
  | n + 1 => fun x c t fs s => ∀ Γ p, Γ.code = c → Γ.Woken A → ∃ e s', Runs M Γ p t fs s e s' ∧
      match e with
      | .ret r => R (n + 1) x r s'
      | .susp v g l k c' p' fs' => (End.susp v g l k c' p' fs').quiet = true ∧ Y n x v s' fun x' s'' => SegG n x' c' (k (.send .none)) fs' s''
/-- what an end gives -/
def EndG (n : Nat) (x : γ) (e : End) (s' : Shared) : Prop :=
  match n with
  | 0 => ∃ r, e = .ret r ∧ R 0 x r s'
  | n + 1 => match e with
      | .ret r => R (n + 1) x r s'
      | .susp v g l k c' p' fs' => (End.susp v g l k c' p' fs').quiet = true ∧ Y n x v s' fun x' s'' => SegG M A R Y n x' c' (k (.send .none)) fs' s''
variable {M A R Y}
theorem segG_iff {n : Nat} {x : γ} {c : Code} {t : Sem PySem.Fin} {fs : List Frame} {s : Shared} :
    SegG M A R Y n x c t fs s ↔ ∀ Γ p, Γ.code = c → Γ.Woken A → ∃ e s', Runs M Γ p t fs s e s' ∧ EndG M A R Y n x e s' := by
  cases n with
  | zero =>
    constructor
    · intro h Γ p hc hΓ
      obtain ⟨r, s', h1, h2⟩ := h Γ p hc hΓ
      exact ⟨_, s', h1, r, rfl, h2⟩
    · intro h Γ p hc hΓ
      obtain ⟨e, s', h1, r, rfl, h2⟩ := h Γ p hc hΓ
      exact ⟨r, s', h1, h2⟩
  | succ n => rfl
theorem segG_wrap {α : Type} {n : Nat} {x : γ} {c : Code} {fs : List Frame} {s : Shared} {m : Sem α} {K : α → Sem PySem.Fin} {H : Value → Sem PySem.Fin} {gd lv}
    (h : wpAny M (A.over c fs) m (fun a s' => SegG M A R Y n x c (K a) fs s') (fun e s' => SegG M A R Y n x c (H e) fs s') s) : SegG M A R Y n x c (m.wrap K H gd lv) fs s := by
  rw [segG_iff]
  rintro Γ p rfl hΓ
  exact runs_wrap_of_wp K H gd lv m (h (Γ.over fs) p (hΓ.over fs)) (fun a p' s' h' => segG_iff.mp h' Γ p' rfl hΓ) (fun x p' s' h' => segG_iff.mp h' Γ p' rfl hΓ)
theorem segG_bind_wrap {α β : Type} {n : Nat} {x : γ} {c : Code} {fs : List Frame} {s : Shared} {m : Sem α} {K : α → Sem β} {K' : β → Sem PySem.Fin} {H' : Value → Sem PySem.Fin} {gd lv}
    (h : wpAny M (A.over c fs) m (fun a s' => SegG M A R Y n x c ((K a).wrap K' H' gd lv) fs s') (fun e s' => SegG M A R Y n x c (H' e) fs s') s) : SegG M A R Y n x c ((m >>= K).wrap K' H' gd lv) fs s := by
  rw [Sem.bind_eq_wrap', Sem.wrap_wrap]
  exact segG_wrap h
theorem segG_at {n : Nat} {x : γ} {c : Code} {fs : List Frame} {s : Shared} {p' : Pos} {k : Unit → Sem PySem.Fin} (h : SegG M A R Y n x c (k ()) fs s) : SegG M A R Y n x c (.at p' k) fs s :=
  segG_wrap (m := standAt p') (K := k) (H := .raise) (gd := id) (lv := id) (wpAny_standAt h)
theorem segG_again {n : Nat} {x : γ} {c c' : Code} {fs : List Frame} {s : Shared} (hq : c'.quiet = true) (hc : SegG M A R Y n x c' (M.den c') fs s) : SegG M A R Y n x c (.pure (.again c')) fs s := by
  rw [segG_iff]
  rintro Γ p rfl hΓ
  obtain ⟨e, s', hr, he⟩ := segG_iff.mp hc (Γ.goto c') p rfl (hΓ.goto c')
  exact ⟨e, s', Runs.head (c₁ := c') (fun _ _ z => .again hq z) hr, he⟩
theorem segG_end {n : Nat} {x : γ} {c : Code} {s : Shared} (r : Result) (h : R n x r s) : SegG M A R Y n x c (leafOf r) [] s := by
  rw [segG_iff]
  rintro Γ p rfl _
  refine ⟨.ret r, s, Runs.leaf r, ?_⟩
  cases n with
  | zero => exact ⟨r, rfl, h⟩
  | succ n => exact h
theorem segG_yield {n : Nat} {x : γ} {c : Code} {fs : List Frame} {s : Shared} {v : Value} {g : Bool} {l : List Value} {k : Resume → Sem PySem.Fin} (hfs : splitAtGen fs = none) (hg : g = false) (hfg : fs.any Frame.guarded = false)
    (h : Y n x v s fun x' s'' => SegG M A R Y n x' c (k (.send .none)) fs s'') : SegG M A R Y (n + 1) x c (.yield v g l k) fs s := by
  rintro Γ p rfl _
  exact ⟨_, s, Runs.yield' fs hfs, And.intro (by simp [End.quiet, hg, hfg]) h⟩
theorem segG_call {n : Nat} {x : γ} {c c' : Code} {fs : List Frame} {s : Shared} {h g l} {k : Result → Sem PySem.Fin} (hc : ∀ p, SegG M A R Y n x c' (M.den c') (.ret k h g l c p [] :: fs) s) : SegG M A R Y n x c (.call c' h g l k) fs s := by
  rw [segG_iff]
  rintro Γ p rfl hΓ
  obtain ⟨e, s', hr, he⟩ := segG_iff.mp (hc p) (Γ.goto c') p rfl (hΓ.goto c')
  exact ⟨e, s', runs_call_seg hr, he⟩
theorem segG_leaf {n : Nat} {x : γ} {c : Code} {fs : List Frame} {s : Shared} {k h g l c₁ p₁ kp} (r : Result) (hk : SegG M A R Y n x c₁ (k r) fs s) : SegG M A R Y n x c (leafOf r) (.ret k h g l c₁ p₁ kp :: fs) s := by
  rw [segG_iff]
  rintro Γ p rfl hΓ
  obtain ⟨e, s', hr, he⟩ := segG_iff.mp hk (Γ.goto c₁) p₁ rfl (hΓ.goto c₁)
  exact ⟨e, s', Runs.pop r hr, he⟩
/-- the ghost may be told otherwise; fewer yields may be asked -/
theorem segG_mono : ∀ {n m : Nat} {x : γ} {c : Code} {t : Sem PySem.Fin} {fs : List Frame} {s : Shared}, n ≤ m → (∀ n m x r s, R n x r s → R m x r s) → (∀ n m x v s k k', n ≤ m → (∀ x' s', k x' s' → k' x' s') → Y n x v s k → Y m x v s k') →
    SegG M A R Y n x c t fs s → SegG M A R Y m x c t fs s := by
  intro n
  induction n with
  | zero =>
    intro m x c t fs s _ hR hY h
    rw [segG_iff] at h ⊢
    intro Γ p hc hΓ
    obtain ⟨e, s', h1, r, rfl, h2⟩ := h Γ p hc hΓ
    refine ⟨_, s', h1, ?_⟩
    cases m with
    | zero => exact ⟨r, rfl, h2⟩
    | succ m => exact hR _ _ _ _ _ h2
  | succ n ih =>
    intro m x c t fs s hm hR hY h
    obtain ⟨m, rfl⟩ : ∃ k, m = k + 1 := ⟨m - 1, by omega⟩
    rw [segG_iff] at h ⊢
    intro Γ p hc hΓ
    obtain ⟨e, s', h1, h2⟩ := h Γ p hc hΓ
    refine ⟨_, s', h1, ?_⟩
    cases e with
    | ret r => exact hR _ _ _ _ _ h2
    | susp v g l k c' p' fs' => exact ⟨h2.1, hY _ _ _ _ _ _ _ (Nat.le_of_succ_le_succ hm) (fun x' s'' z => ih (Nat.le_of_succ_le_succ hm) hR hY z) h2.2⟩

/-- a generator that sleeps (or has not begun) -/
def GoesG (M : Model) (A : Around) (R : Nat → γ → Result → Shared → Prop) (Y : Nat → γ → Value → Shared → (γ → Shared → Prop) → Prop) (n : Nat) (x : γ) (gs : GenState) (s : Shared) : Prop :=
  match gs with
  | .fresh c => SegG M A R Y n x c (M.den c) [] s
  | .suspended k _ c _ fs _ => SegG M A R Y n x c (k (.send .none)) fs s
  | _ => False
theorem wpAny_resumeG {n : Nat} {x : γ} {E : Value → Shared → Prop} {s : Shared} {g : Nat} {gs : GenState} {l : List Value} {α : Type} {k : GenResult → Sem α} {Q : α → Shared → Prop} (hg : s.gens[g]? = some gs)
    (hgo : GoesG M A R Y n x gs (s.setGen g .running))
    (hR : ∀ r s₁, R n x r s₁ → wpAny M A (k (End.ret r).result) Q E (s₁.setGen g .finished))
    (hY : ∀ m v s₁ gs', n = m + 1 → gs'.bare = true → Y m x v s₁ (fun x' s'' => GoesG M A R Y m x' gs' s'') → wpAny M A (k (.yielded v)) Q E (s₁.setGen g gs')) :
    wpAny M A (.resume g (.send .none) l k) Q E s := by
  intro Γ p hΓ
  rw [Sem.wp_resume]
  have hB : ∀ c, (Γ.wake c p).Woken A := fun c => hΓ.wake c p
  have fin : ∀ e₁ s₁, EndG M A R Y n x e₁ s₁ → e₁.quiet = true ∧ Sem.wp M Γ (k e₁.result) (fun a _ s' => Q a s') (fun e _ s' => E e s') p (s₁.setGen g e₁.genState) := by
    intro e₁ s₁ he
    cases n with
    | zero =>
      obtain ⟨r, rfl, h⟩ := he
      exact ⟨rfl, hR r s₁ h Γ p hΓ⟩
    | succ m =>
      cases e₁ with
      | ret r => exact ⟨rfl, hR r s₁ he Γ p hΓ⟩
      | susp v g₀ l₀ k₀ c₀ p₀ fs₀ =>
        obtain ⟨h1, h2⟩ := he
        exact ⟨h1, hY m v s₁ (End.susp v g₀ l₀ k₀ c₀ p₀ fs₀).genState rfl (End.bare_of_quiet h1) h2 Γ p hΓ⟩
  cases gs with
  | fresh c =>
    obtain ⟨e₁, s₁, hr, he⟩ := segG_iff.mp hgo (Γ.wake c p) p rfl (hB c)
    exact ⟨_, _, by unfold Wakes; rw [hg]; exact ⟨e₁, s₁, hr, (fin e₁ s₁ he).1, rfl, rfl⟩, (fin e₁ s₁ he).2⟩
  | suspended k₀ l₀ c₀ p₀ fs₀ cl =>
    obtain ⟨e₁, s₁, hr, he⟩ := segG_iff.mp hgo (Γ.wake c₀ p) p₀ rfl (hB c₀)
    exact ⟨_, _, by unfold Wakes; rw [hg]; exact ⟨e₁, s₁, hr, (fin e₁ s₁ he).1, rfl, rfl⟩, (fin e₁ s₁ he).2⟩
  | running => exact hgo.elim
  | finished => exact hgo.elim
end
end Gx
set_option Elab.async false
set_option linter.all false
set_option maxRecDepth 100000
set_option maxHeartbeats 2000000
namespace Gx
open PySem PySem.Spec PyProof.Rows L2 GenW

section
variable {γ : Type} {P : Program} {w : World} {A : Around} {E : Value → Shared → Prop} {s : Shared} {R : Nat → γ → Result → Shared → Prop} {Y : Nat → γ → Value → Shared → (γ → Shared → Prop) → Prop}
/-- next(g) -/
theorem next_G {a : Addr} {g n : Nat} {x : γ} {gs : GenState} {Q : Option Value → Shared → Prop} (hh : A.handled = none) (hl : s.heap.NoLimit) (hroom : A.depth < recursionLimit) (hg : s.heap.IsGen a g) (hgs : s.gens[g]? = some gs)
    (hgo : GoesG (model P w) A.in1 R Y n x gs (s.setGen g .running))
    (hY : ∀ m v s₁ gs', n = m + 1 → gs'.bare = true → Y m x v s₁ (fun x' s'' => GoesG (model P w) A.in1 R Y m x' gs' s'') → Q (some v) (s₁.setGen g gs'))
    (hR : ∀ r s₁, R n x r s₁ → r = .ok .next ∧ ∀ h', (∀ b o, s₁.heap.get? b = some o → h'.get? b = some o) → Q none { s₁.setGen g .finished with heap := h' }) :
    wpAny (model P w) A (pyNext (.ref a)) Q E s := by
  unfold pyNext
  refine wpAny_bind (wpAny_attempt (wpAny_callSpecial?_slot (name := Str.ofString "__next__") hg.typeIs slot_gen_next
    (wpAny_call_entry slot_gen_next hg.typeIs entry_gen_next ?_ (args_gen_next _))))
  show wpAny _ A.in1 (Builtin.Generator.genWake (.ref a) (.send .none)) _ _ s
  unfold Builtin.Generator.genWake
  refine wpAny_bind (wpAny_holding (wpAny_genNumber hg (wpAny_bind (wpAny_genState hgs ?_))))
  cases gs with
  | running => exact hgo.elim
  | finished => exact hgo.elim
  | _ =>
    refine wpAny_bind (wpAny_roomToWake hl hroom ?_)
    show wpAny _ A.in1 (.resume g (.send .none) [] _) _ _ s
    refine wpAny_resumeG hgs hgo (fun r s₁ hx => ?_) (fun m v s₁ gs' hn hb hv => ?_)
    · obtain ⟨rfl, hp⟩ := hR r s₁ hx
      show wpAny _ A.in1 (newExc (.type "StopIteration") [] >>= _) _ _ _
      refine wpAny_bind ?_
      simp only [newExc, newTuple]
      refine wpAny_bind (wpAny_newObj_type ?_ (by size_fits))
      refine wpAny_bind (m := firstArgMember _ _) (wpAny_of_eq (a := Value.none) (by first | rfl | (simp only [firstArgMember]; rfl)) ?_)
      refine wpAny_newObj_type ?_ (by size_fits)
      simp only [raiseNew]
      refine wpAny_bind (wpAny_bind (wpAny_handled ?_))
      first | rw [show A.in1.handled = none from hh] | rw [hh]
      refine wpAny_throw ?_
      refine wpAny_bind (wpAny_isInstance (T := "StopIteration") (b := true) ⟨_, Heap.get?_push_size _ rfl, rfl⟩ isSubtype_stop ?_)
      exact wpAny_pure (hp _ fun b o hb => Heap.get?_push_of_some _ (Heap.get?_push_of_some _ hb))
    · exact wpAny_pure ⟨v, rfl, wpAny_pure (hY m v s₁ gs' hn hb hv)⟩
end

/-! ### the generator's own context -/
abbrev gCx (X : Cx) (A : Around) (s : Shared) (H : Hp) (cenv : Env) (fp : List Addr) (pn : List (Addr × Obj)) : Cx :=
  { X with A := A, s_0 := s, H_0 := H, env := cenv, outer := X.stack, stack := cenv :: X.stack, ex := fp, fn := fun x => cenv.scope.names.lookup x == some .cell, calm := true, pn := pn, xe := fun _ _ => False }

/-- what the generator hands out so far; the consumer's own objects as they stand -/
abbrev Gh := List V × List (Addr × Obj)
/-- while the generator sleeps -/
structure Slept (po po' : List (Addr × Obj)) (s s' : Shared) : Prop where
  os : s'.os = s.os
  bare : AllBare s'.gens
  keep : ∀ b o, b ∉ po.map (·.1) → s.heap.get? b = some o → s'.heap.get? b = some o
  same : po'.map (·.1) = po.map (·.1)
  own : ∀ p ∈ po', s'.heap.get? p.1 = some p.2 ∧ ∀ v, p.2.data ≠ .cell v
/-- the consumer's objects are none of the generator's -/
def SlOk (X : Cx) (l : List Addr) : Prop := ∀ b ∈ l, X.s_0.heap.objs.size ≤ b ∧ b ≠ X.env.locals ∧ (∀ x c, X.env.cells.lookup x = some c → c ≠ b) ∧ (∀ p ∈ X.pn, p.1 ≠ b) ∧ b ∉ X.ex
theorem woken {X : Cx} {po po' : List (Addr × Obj)} {σ : L2.St} {H : Hp} {s s' : Shared} (hS : SlOk X (po.map (·.1))) (I : Inv X po σ H s) (z : Slept po po' s s') : Inv X po' σ H s' := by
  obtain ⟨z1, z2, z3, z4, z5⟩ := z
  have pinP : ∀ b ∈ po.map (·.1), H b = none ∧ b ≠ X.env.locals ∧ b ∉ X.fs := fun b hb => by
    obtain ⟨p, hp, e⟩ := List.mem_map.mp hb
    obtain ⟨_, h2, h3, h4, _⟩ := I.pin p (List.mem_append_right _ hp)
    rw [e] at h2 h3 h4
    exact ⟨h2, h3, h4⟩
  have I0 : Inv X [] σ H s := I.pins_of fun p hp => absurd hp (by simp)
  have nt : ∀ b u, H b = some u → b ∉ po.map (·.1) := fun b u q hb => by
    rw [(pinP b hb).1] at q
    cases q
  obtain ⟨hh, g, d, t, o⟩ := s'
  have ho : o = s.os := z1
  subst ho
  have J : Inv X [] σ H { s with heap := hh, gens := g, drawn := d, toks := t } := by
    refine I0.step (g' := g) (t' := t) (d' := d) (ch := po.map (·.1)) (fun b hb => ?_)
      (fun b ob _ _ hc q _ => z3 b ob hc q) (fun b ob _ _ hc q _ => ⟨ob.slots, z3 b ob hc q⟩) (fun _ _ _ _ n => n) (fun b ob hc q => ⟨ob, z3 b ob hc q⟩)
      (fun _ _ q => q) (fun _ _ _ q => q) (fun b ps q => ⟨#[], by rw [q]; simp⟩) (fun m hm => ?_) (fun b u q => ?_) z2
    · obtain ⟨h1, h2, h3, h4, _⟩ := hS b hb
      exact ⟨.inr h1, h2, h3, fun p hp => h4 p (by simpa using hp)⟩
    · obtain ⟨ob, es, ep, ho, r⟩ := hm
      exact ⟨ob, es, ep, z3 _ ob (fun hm => (pinP _ hm).2.1 rfl) ho, r⟩
    · refine (I0.hok b u q).stay (fun c v hc y => z3 c v ?_ y) (fun _ y => y) fun _ _ y => y
      rcases hc with y | y
      · rw [y]; exact nt b u q
      · exact nt c _ y
  refine J.pins_of fun p hp => ?_
  have hm : p.1 ∈ po.map (·.1) := by
    rw [← z4]
    exact List.mem_map.mpr ⟨p, hp, rfl⟩
  obtain ⟨q1, q2, q3⟩ := pinP _ hm
  exact ⟨(z5 p hp).1, q1, q2, q3, (z5 p hp).2⟩

/-- the end of a generator's run: K of all that was handed out -/
def gR (X : Cx) (K : List V → Hp → Prop) : Nat → Gh → Result → Shared → Prop := fun _ x r s => r = .ok .next ∧ ∃ σ H, Inv X x.2 σ H s ∧ K x.1 H
/-- an item is handed out: the consumer is done with it (Fin), or takes it and goes on -/
def gY (X : Cx) (Fin : List V → V → Hp → Prop) (Go : List V → V → Prop) : Nat → Gh → Value → Shared → (Gh → Shared → Prop) → Prop := fun _ x v s k =>
  ∃ y σ H, RelV y v ∧ Inv X x.2 σ H s ∧ (Fin x.1 y H ∨ (Go x.1 y ∧ ∀ s'' po', Slept x.2 po' s s'' → k (x.1 ++ [y], po') s''))

/-- what the turns of a generator expression ask: W by the turn, a measure, what is out so far -/
def gTurn (J : It) (g : TG) (tt : TT) (te : TE) (vs : List Nat) (σ : L2.St) (Fin : List V → V → Hp → Prop) (Go : List V → V → Prop) (K : List V → Hp → Prop) (W : Nat → Nat → List V → Hp → Prop) : Prop :=
  ∀ i m ys H, W i m ys H → (J.stop i H ∧ K ys H) ∨ (J.go i H ∧ ∃ Nx : List V → Hp → Prop, (∀ ys' H', Nx ys' H' → ∃ m', m' < m ∧ W (i + 1) m' ys' H') ∧ ∀ x H', J.yld i H x H' → g x (wipe σ vs) H' fun σ2 H2 => wipe σ2 vs = wipe σ vs ∧ tt σ2 H2 fun b H3 =>
    if b = true then te σ2 H3 fun y H4 => Fin ys y H4 ∨ (Go ys y ∧ Nx (ys ++ [y]) H4) else Nx ys H3)

theorem wipe_idem (σ : L2.St) : ∀ vs : List Nat, wipe (wipe σ vs) vs = wipe σ vs := by
  intro vs
  apply List.ext_getElem?
  intro j
  by_cases hm : j ∈ vs
  · have key : ∀ (τ : L2.St) (l : List Nat), j ∈ l → (wipe τ l)[j]? = if j < τ.length then some none else none := by
      intro τ l
      induction l with
      | nil => intro h; cases h
      | cons v r ih =>
        intro h
        unfold wipe
        by_cases e : v = j
        · subst e
          rw [List.getElem?_set, if_pos rfl, wipe_length]
        · rw [List.getElem?_set_ne e]
          exact ih ((List.mem_cons.mp h).resolve_left fun z => e z.symm)
    rw [key _ _ hm, key _ _ hm, wipe_length]
  · have key : ∀ (τ : L2.St) (l : List Nat), j ∉ l → (wipe τ l)[j]? = τ[j]? := by
      intro τ l
      induction l with
      | nil => intro _; rfl
      | cons v r ih =>
        intro h
        unfold wipe
        rw [List.getElem?_set_ne (fun z => h (by rw [z]; exact List.mem_cons_self))]
        exact ih fun z => h (List.mem_cons_of_mem _ z)
    rw [key _ _ hm]

section
variable {X : Cx} {A : Around} {s4 : Shared} {H4 : Hp} {cenv : Env} {fp : List Addr} {pn : List (Addr × Obj)} {elt tg iter : Expr} {ifs : List Expr} {scope : Scope} {pos : Pos} {it : Addr} {vs : List Nat} {σ : L2.St}
  {J : It} {g : TG} {tt : TT} {te : TE} {Fin : List V → V → Hp → Prop} {Go : List V → V → Prop} {K : List V → Hp → Prop} {W : Nat → Nat → List V → Hp → Prop} {tn : Nat → Heap → Prop}
theorem seg_gloop
    (T : Turn X.prog X.w X.K tg J fp it tn) (hsc : cenv.scope.isCoroutine = false)
    (pg : PG (gCx X (A.over (.compLoop (.GeneratorExp elt [⟨tg, iter, ifs, 0⟩] scope pos) 0 (.ref it) .none cenv) []) s4 H4 cenv fp pn) tg g)
    (pt : PTs (gCx X (A.over (.compLoop (.GeneratorExp elt [⟨tg, iter, ifs, 0⟩] scope pos) 0 (.ref it) .none cenv) []) s4 H4 cenv fp pn) ifs tt)
    (pe : PE (gCx X (A.over (.compLoop (.GeneratorExp elt [⟨tg, iter, ifs, 0⟩] scope pos) 0 (.ref it) .none cenv) []) s4 H4 cenv fp pn) elt te)
    (turn : gTurn J g tt te vs σ Fin Go K W) :
    ∀ (m i : Nat) (ys : List V) (H : Hp) (s : Shared) (po : List (Addr × Obj)), SlOk (gCx X (A.over (.compLoop (.GeneratorExp elt [⟨tg, iter, ifs, 0⟩] scope pos) 0 (.ref it) .none cenv) []) s4 H4 cenv fp pn) (po.map (·.1)) →
      Inv (gCx X (A.over (.compLoop (.GeneratorExp elt [⟨tg, iter, ifs, 0⟩] scope pos) 0 (.ref it) .none cenv) []) s4 H4 cenv fp pn) po (wipe σ vs) H s → tn i s.heap → (∀ b ∈ fp, H b = none) → (∀ b ∈ fp, ∀ p ∈ pn, p.1 ≠ b) → W i m ys H →
      SegG (model X.prog X.w) A (gR (gCx X (A.over (.compLoop (.GeneratorExp elt [⟨tg, iter, ifs, 0⟩] scope pos) 0 (.ref it) .none cenv) []) s4 H4 cenv fp pn) K)
        (gY (gCx X (A.over (.compLoop (.GeneratorExp elt [⟨tg, iter, ifs, 0⟩] scope pos) 0 (.ref it) .none cenv) []) s4 H4 cenv fp pn) Fin Go) (m + 1) (ys, po)
        (.compLoop (.GeneratorExp elt [⟨tg, iter, ifs, 0⟩] scope pos) 0 (.ref it) .none cenv) ((model X.prog X.w).den (.compLoop (.GeneratorExp elt [⟨tg, iter, ifs, 0⟩] scope pos) 0 (.ref it) .none cenv)) [] s := by
  generalize hXg : gCx X (A.over (.compLoop (.GeneratorExp elt [⟨tg, iter, ifs, 0⟩] scope pos) 0 (.ref it) .none cenv) []) s4 H4 cenv fp pn = Xg at pg pt pe ⊢
  have eA : Xg.A = A.over (.compLoop (.GeneratorExp elt [⟨tg, iter, ifs, 0⟩] scope pos) 0 (.ref it) .none cenv) [] := by rw [← hXg]
  have eP : Xg.prog = X.prog := by rw [← hXg]
  have eW : Xg.w = X.w := by rw [← hXg]
  have eK : Xg.K = X.K := by rw [← hXg]
  have ec : Xg.calm = true := by rw [← hXg]
  have ee : Xg.env = cenv := by rw [← hXg]
  have ex : Xg.ex = fp := by rw [← hXg]
  have ep : Xg.pn = pn := by rw [← hXg]
  have exe : Xg.xe = fun _ _ => False := by rw [← hXg]
  intro m
  induction m using Nat.strongRecOn with
  | ind m ih =>
    intro i ys H s po hS I st hn hpn hw
    have stat : ∀ {σ' : L2.St} {H' : Hp} {s' : Shared}, Inv Xg po σ' H' s' → (∀ b ∈ fp, H' b = none) → ∀ b ∈ fp, FpOk Xg po H' b := fun {σ' H' s'} I' hn b hb => by
      have hb' : b ∈ Xg.ex := by rw [ex]; exact hb
      refine ⟨hn b hb, (I'.ok.exf b hb').1, I'.ok.exfs b hb', .inl hb', fun x c e => (I'.ok.exf b hb').2 x c e, fun p hp z => ?_⟩
      rcases List.mem_append.mp hp with hp | hp
      · rw [ep] at hp
        exact hpn b hb p hp z
      · exact (hS p.1 (List.mem_map.mpr ⟨p, hp, rfl⟩)).2.2.2.2 (by rw [z]; exact hb')
    show SegG _ A _ _ (m + 1) _ _ ((compTurn (.GeneratorExp elt [⟨tg, iter, ifs, 0⟩] scope pos) 0 (.ref it) .none cenv).onRaise (leaving cenv)) [] s
    rw [compTurn_gen, Sem.onRaise_eq_wrap]
    refine segG_bind_wrap (wpAny_standAt ?_)
    rcases turn i m ys H hw with ⟨stop, qk⟩ | ⟨go, Nx, hNx, step⟩
    · have td := T.done Xg eP eW eK ec i po s _ H (fun _ _ => False) I (stat I hn) st stop
      rw [eA] at td
      refine segG_bind_wrap (wpAny_mono td (fun r s1 ⟨hr, I1⟩ => ?_) fun _ _ z => z.elim)
      subst hr
      exact segG_end (.ok .next) ⟨rfl, _, _, I1, qk⟩
    · have ti := T.item Xg eP eW eK ec i po s _ H (fun _ _ => False) I (stat I hn) st go
      rw [eA] at ti
      refine segG_bind_wrap (wpAny_mono ti (fun r s1 ⟨u, hr, h1⟩ => ?_) fun _ _ z => z.elim)
      subst hr
      refine segG_bind_wrap (wpAny_mono h1 (fun _ s2 ⟨x, H2, I2, r2, y2, st2, n2⟩ => ?_) fun _ _ z => z.elim)
      have I2' := I2.pinned (stat I2 n2) (T.obj _ _ st2)
      have rg := pg.run _ s2 _ H2 x u _ I2' r2 (step x H2 y2)
      rw [eP, eW, eA, ee, exe] at rg
      refine segG_bind_wrap (wpAny_mono rg (fun _ s3 ⟨σ3, H3, I3, hw3, q3⟩ => ?_) fun _ _ z => z.elim)
      have rt := pt.run _ s3 σ3 H3 _ I3 q3
      rw [eP, eW, eA, ee, exe] at rt
      refine segG_bind_wrap (wpAny_mono rt (fun b s4 ⟨H5, I5, q5⟩ => ?_) fun _ _ z => z.elim)
      -- the turn's end
      have pinS : ∀ {po' : List (Addr × Obj)} {s' : Shared} {H' : Hp}, Inv Xg (po' ++ pinsAt fp s2.heap) σ3 H' s' → tn (i + 1) s'.heap ∧ (∀ b ∈ fp, H' b = none) ∧ Inv Xg po' (wipe σ vs) H' s' := fun {po' s' H'} I' => by
        have pin' : ∀ b ∈ fp, ∀ o, s2.heap.get? b = some o → s'.heap.get? b = some o ∧ H' b = none := fun b hb o e =>
          let z := I'.pin (b, o) (List.mem_append_right _ (List.mem_append_right _ (mem_pinsAt hb e)))
          ⟨z.1, z.2.1⟩
        have hl : (wipe σ vs).length = σ3.length := by rw [← hw3, wipe_length]
        refine ⟨T.keep _ _ _ st2 fun b hb o e => (pin' b hb o e).1, fun b hb => ?_, (I'.unpinned (pins := po')).weak hl fun j v e => ?_⟩
        · obtain ⟨o, e, _⟩ := T.obj _ _ st2 b hb
          exact (pin' b hb o e).2
        · rw [← hw3] at e
          exact (wipe_some e).1
      cases b with
      | false =>
        simp only [Bool.false_eq_true, if_false] at q5 ⊢
        obtain ⟨m', hm, w'⟩ := hNx ys H5 q5
        obtain ⟨z1, z2, z3⟩ := pinS I5
        have q := ih m' hm (i + 1) ys H5 s4 po hS z3 z1 z2 hpn w'
        refine segG_again rfl (segG_mono (Nat.succ_le_succ (Nat.le_of_lt hm)) (fun _ _ _ _ _ z => z) (fun _ _ _ _ _ k k' _ hk z => ?_) q)
        obtain ⟨y, σy, Hy, h1, h2, h3⟩ := z
        exact ⟨y, σy, Hy, h1, h2, h3.imp (fun z => z) fun z => ⟨z.1, fun s'' po' h => hk _ _ (z.2 s'' po' h)⟩⟩
      | true =>
        simp only [if_true] at q5 ⊢
        have hy : ∀ v, yieldOut cenv v = yieldValue v := fun v => by simp only [yieldOut, hsc, Bool.false_eq_true, if_false]
        simp only [hy]
        rw [Sem.bind_eq_wrap', Sem.bind_eq_wrap', Sem.wrap_wrap, Sem.wrap_wrap]
        have re := pe.run _ s4 σ3 H5 _ I5 q5
        rw [eP, eW, eA, ee, exe] at re
        refine segG_wrap (wpAny_mono re (fun yv s5 ⟨y, H6, I6, r6, q6⟩ => ?_) fun _ _ z => z.elim)
        obtain ⟨z1, z2, z3⟩ := pinS I6
        refine segG_at (segG_yield rfl rfl rfl ⟨y, _, H6, r6, z3, q6.imp (fun z => z) fun q => ⟨q.1, fun s'' po' zs => ?_⟩⟩)
        obtain ⟨m', hm, w'⟩ := hNx _ H6 q.2
        have z3' : Inv Xg po' (wipe σ vs) H6 s'' := woken hS z3 zs
        have hS' : SlOk Xg (po'.map (·.1)) := by rw [zs.same]; exact hS
        have st' : tn (i + 1) s''.heap := T.keep _ _ _ z1 fun b hb o e => zs.keep b o (fun hm => (hS b hm).2.2.2.2 (by rw [ex]; exact hb)) e
        have q := ih m' hm (i + 1) (ys ++ [y]) H6 s'' po' hS' z3' st' z2 hpn w'
        refine segG_again rfl (segG_mono hm (fun _ _ _ _ _ z => z) (fun _ _ _ _ _ k k' _ hk z => ?_) q)
        obtain ⟨y, σy, Hy, h1, h2, h3⟩ := z
        exact ⟨y, σy, Hy, h1, h2, h3.imp (fun z => z) fun z => ⟨z.1, fun s'' po' h => hk _ _ (z.2 s'' po' h)⟩⟩
end
end Gx
set_option Elab.async false
set_option linter.all false
set_option maxRecDepth 100000
set_option maxHeartbeats 2000000
namespace Gx
open PySem PySem.Spec PyProof.Rows L2 GenW

section
variable {γ : Type} {M : Model} {A : Around} {R R' : Nat → γ → Result → Shared → Prop} {Y Y' : Nat → γ → Value → Shared → (γ → Shared → Prop) → Prop}
theorem segG_imp (hR : ∀ n x r s, R n x r s → R' n x r s) (hY : ∀ n x v s k k', (∀ x' s', k x' s' → k' x' s') → Y n x v s k → Y' n x v s k') :
    ∀ {n : Nat} {x : γ} {c : Code} {t : Sem PySem.Fin} {fs : List Frame} {s : Shared}, SegG M A R Y n x c t fs s → SegG M A R' Y' n x c t fs s := by
  intro n
  induction n with
  | zero =>
    intro x c t fs s h
    rw [segG_iff] at h ⊢
    intro Γ p hc hΓ
    obtain ⟨e, s', h1, r, rfl, h2⟩ := h Γ p hc hΓ
    exact ⟨_, s', h1, r, rfl, hR _ _ _ _ h2⟩
  | succ n ih =>
    intro x c t fs s h
    rw [segG_iff] at h ⊢
    intro Γ p hc hΓ
    obtain ⟨e, s', h1, h2⟩ := h Γ p hc hΓ
    refine ⟨_, s', h1, ?_⟩
    cases e with
    | ret r => exact hR _ _ _ _ h2
    | susp v g l k c' p' fs' => exact ⟨h2.1, hY _ _ _ _ _ _ (fun x' s'' z => ih z) h2.2⟩
end

section
variable {X : Cx} {A : Around} {s4 : Shared} {H4 : Hp} {cenv : Env} {fp : List Addr} {pn : List (Addr × Obj)} {elt tg iter : Expr} {ifs : List Expr} {scope : Scope} {pos : Pos} {it : Addr} {vs : List Nat} {σ : L2.St}
  {J : It} {g : TG} {tt : TT} {te : TE} {Fin : List V → V → Hp → Prop} {Go : List V → V → Prop} {K : List V → Hp → Prop} {W : Nat → Nat → List V → Hp → Prop} {tn : Nat → Heap → Prop}
/-- the around of the generator's code -/
abbrev gA (A : Around) (elt tg iter : Expr) (ifs : List Expr) (scope : Scope) (pos : Pos) (it : Addr) (cenv : Env) : Around := A.over (.compLoop (.GeneratorExp elt [⟨tg, iter, ifs, 0⟩] scope pos) 0 (.ref it) .none cenv) []
theorem seg_gstart
    (T : Turn X.prog X.w X.K tg J fp it tn) (hsc : cenv.scope.isCoroutine = false)
    (pg : PG (gCx X (gA A elt tg iter ifs scope pos it cenv) s4 H4 cenv fp pn) tg g)
    (pt : PTs (gCx X (gA A elt tg iter ifs scope pos it cenv) s4 H4 cenv fp pn) ifs tt)
    (pe : PE (gCx X (gA A elt tg iter ifs scope pos it cenv) s4 H4 cenv fp pn) elt te)
    (turn : gTurn J g tt te vs σ Fin Go K W)
    (m : Nat) (ys : List V) (H : Hp) (s : Shared) (po : List (Addr × Obj)) (hS : SlOk (gCx X (gA A elt tg iter ifs scope pos it cenv) s4 H4 cenv fp pn) (po.map (·.1)))
    (I : Inv (gCx X (gA A elt tg iter ifs scope pos it cenv) s4 H4 cenv fp pn) po (wipe σ vs) H s) (st : tn 0 s.heap) (hn : ∀ b ∈ fp, H b = none) (hpn : ∀ b ∈ fp, ∀ p ∈ pn, p.1 ≠ b) (hw : W 0 m ys H) :
      SegG (model X.prog X.w) A (gR (gCx X (gA A elt tg iter ifs scope pos it cenv) s4 H4 cenv fp pn) K)
        (gY (gCx X (gA A elt tg iter ifs scope pos it cenv) s4 H4 cenv fp pn) Fin Go) (m + 1) (ys, po)
        (.compStart (.GeneratorExp elt [⟨tg, iter, ifs, 0⟩] scope pos) 0 (.ref it) .none cenv) ((model X.prog X.w).den (.compStart (.GeneratorExp elt [⟨tg, iter, ifs, 0⟩] scope pos) 0 (.ref it) .none cenv)) [] s := by
  have loop := seg_gloop (A := A) (s4 := s4) (H4 := H4) T hsc pg pt pe turn m 0 ys H s po hS I st hn hpn hw
  show SegG _ A _ _ _ _ _ ((compStart (.GeneratorExp elt [⟨tg, iter, ifs, 0⟩] scope pos) 0 (.ref it) .none cenv).onRaise (leaving cenv)) [] s
  unfold compStart
  rw [Sem.onRaise_eq_wrap]
  show SegG _ A _ _ _ _ _ ((ask >>= _).wrap _ _ _ _) [] s
  refine segG_bind_wrap (wpAny_askSetting ?_)
  split
  · exact segG_again rfl loop
  · first
      | exact segG_bind_wrap (wpAny_rule (segG_bind_wrap (wpAny_standAt (segG_bind_wrap (T.self _ 0 s _ _ st (segG_again rfl loop))))))
      | (refine segG_bind_wrap (wpAny_rule ?_); show SegG _ A _ _ _ _ _ ((standAt iter.pos >>= _).wrap _ _ _ _) [] s; exact segG_bind_wrap (wpAny_standAt (segG_bind_wrap (T.self _ 0 s _ _ st (segG_again rfl loop)))))
end

/-! ### seen by the consumer -/
section
variable (X : Cx) (pins : List (Addr × Obj)) (σ : L2.St) (a : Addr) (g : Nat)
/-- the pins of the consumer stand -/
def Pinned (po : List (Addr × Obj)) (H : Hp) (s : Shared) : Prop := ∀ p ∈ po, s.heap.get? p.1 = some p.2 ∧ H p.1 = none
def cR (K : List V → Hp → Prop) : Nat → Gh → Result → Shared → Prop := fun _ x r s => r = .ok .next ∧ ∃ H, Inv X pins σ H s ∧ Pinned x.2 H s ∧ s.heap.IsGen a g ∧ K x.1 H
def cY (Fin : List V → V → Hp → Prop) (Go : List V → V → Prop) : Nat → Gh → Value → Shared → (Gh → Shared → Prop) → Prop := fun _ x v s k =>
  ∃ y H, RelV y v ∧ Inv X pins σ H s ∧ Pinned x.2 H s ∧ s.heap.IsGen a g ∧ (Fin x.1 y H ∨ (Go x.1 y ∧ ∀ s'' po', Slept x.2 po' s s'' → k (x.1 ++ [y], po') s''))
/-- the generator sleeps, n more may come; ys is out -/
structure GLive (A : Around) (Fin : List V → V → Hp → Prop) (Go : List V → V → Prop) (K : List V → Hp → Prop) (n : Nat) (x : Gh) (s : Shared) : Prop where
  isg : s.heap.IsGen a g
  lim : s.heap.NoLimit
  ne : ∀ b ∈ x.2.map (·.1), b ≠ a ∧ b ≠ cStatics
  goes : ∃ gs, s.gens[g]? = some gs ∧ GoesG (model X.prog X.w) A.in1 (cR X pins σ a g K) (cY X pins σ a g Fin Go) n x gs (s.setGen g .running)
end
section
variable {X : Cx} {pins : List (Addr × Obj)} {σ : L2.St} {a : Addr} {g : Nat} {A : Around} {Fin : List V → V → Hp → Prop} {Go : List V → V → Prop} {K : List V → Hp → Prop}
/-- a generator's state is set: nothing else changes -/
theorem inv_setGen {H : Hp} {s : Shared} {gs : GenState} (I : Inv X pins σ H s) (hb : gs.bare = true) : Inv X pins σ H (s.setGen g gs) :=
  I.call' (s' := s.setGen g gs) (ch := []) rfl Un.refl I.hok (allBare_setGen I.bare hb) (fun b hb => absurd hb (by simp))
/-- what comes of next(g) -/
theorem live_next {n : Nat} {x : Gh} {s : Shared} {Q : Option Value → Shared → Prop} {E : Value → Shared → Prop} (hh : A.handled = none) (hroom : A.depth < recursionLimit) (L : GLive X pins σ a g A Fin Go K n x s)
    (hQ0 : ∀ s' H, Inv X pins σ H s' → Pinned x.2 H s' → K x.1 H → Q none s')
    (hQ1 : ∀ m v y H s', n = m + 1 → RelV y v → Inv X pins σ H s' → Pinned x.2 H s' → (Fin x.1 y H ∨ (Go x.1 y ∧ ∀ s'' po', Slept x.2 po' s' s'' → s''.gens = s'.gens → GLive X pins σ a g A Fin Go K m (x.1 ++ [y], po') s'')) → Q (some v) s') :
    wpAny (model X.prog X.w) A (pyNext (.ref a)) Q E s := by
  obtain ⟨hg, hl, hne, gs, hgs, hgo⟩ := L
  have hgl : g < s.gens.size := (Array.getElem?_eq_some_iff.mp hgs).1
  refine wpAny_gsz (n := g + 1) hgl (next_G hh hl hroom hg hgs hgo (fun m v s₁ gs' hn hb hv hsz => ?_) fun r s₁ hr => ⟨hr.1, fun h' hk hsz => ?_⟩)
  · obtain ⟨y, H, rv, I, hp, hg1, hc⟩ := hv
    have hsz1 : g < s₁.gens.size := by
      have q : (s₁.setGen g gs').gens.size = s₁.gens.size := setGen_size _ _ _
      omega
    refine hQ1 m v y H _ hn rv (inv_setGen I hb) hp (hc.imp (fun z => z) fun z => ⟨z.1, fun s'' po' zs hgen => ?_⟩)
    have q := z.2 (s''.setGen g .running) po' ⟨zs.os, allBare_setGen zs.bare rfl, fun b o hb e => zs.keep b o hb e, zs.same, zs.own⟩
    have I2 := inv_setGen (g := g) I hb
    refine ⟨?_, ?_, fun b hb => hne b (by rw [← zs.same]; exact hb), gs', by rw [hgen]; exact setGen_at hsz1, q⟩
    · obtain ⟨o, nm, qn, ho, r⟩ := hg1
      exact ⟨o, nm, qn, zs.keep a o (fun hm => (hne a hm).1 rfl) ho, r⟩
    · obtain ⟨mc, hns, hnn⟩ := I2.nolimit
      exact ⟨mc, hns.at' fun o e => zs.keep _ o (fun hm => (hne _ hm).2 rfl) e, hnn⟩
  · obtain ⟨_, H, I, hp, hg1, hK⟩ := hr
    refine hQ0 _ H ((inv_setGen (g := g) I rfl).kept hk) (fun p hp' => ⟨hk _ _ (hp p hp').1, (hp p hp').2⟩) hK
end
end Gx
set_option Elab.async false
set_option linter.all false
set_option maxRecDepth 100000
set_option maxHeartbeats 2000000
namespace Gx
open PySem PySem.Spec PyProof.Rows L2 GenW

/-- a code object at c whose table stands at P -/
def codeH (c P : Addr) : HO := .ext fun h => PySem.W.CodeHd h c P
/-- a table of code objects: all that it tells are known, and their tables so (to the depth d) -/
def Tab : Nat → Hp → Addr → Prop
  | 0, H, P => ∃ ps : Array Value, H P = some (.tbl ps) ∧ TriplesOk ps.toList
  | d + 1, H, P => ∃ ps : Array Value, H P = some (.tbl ps) ∧ TriplesOk ps.toList ∧ ∀ (pos : Pos) (cv : Value), codeAmong pos ps.toList = some cv → ∃ c P', cv = .ref c ∧ H c = some (codeH c P') ∧ Tab d H P'
def TabA (H : Hp) (P : Addr) : Prop := ∀ d, Tab d H P
theorem codeH_ne {c P : Addr} (ps : Array Value) : codeH c P ≠ .tbl ps := fun z => by
  unfold codeH at z
  cases z
/-- all but the tables stay; the tables grow -/
structure ExtT (H H' : Hp) : Prop where
  stay : ∀ b o, H b = some o → (∀ ps, o ≠ .tbl ps) → H' b = some o
  tabs : ∀ P, TabA H P → TabA H' P
  grow : ∀ b ps, H b = some (.tbl ps) → ∃ ps', H' b = some (.tbl ps')
theorem ExtT.refl (H : Hp) : ExtT H H := ⟨fun _ _ h _ => h, fun _ h => h, fun _ ps h => ⟨ps, h⟩⟩
theorem ExtT.trans {H H1 H2 : Hp} (a : ExtT H H1) (b : ExtT H1 H2) : ExtT H H2 := ⟨fun c o h n => b.stay c o (a.stay c o h n) n, fun P h => b.tabs P (a.tabs P h), fun c ps h => let ⟨qs, h1⟩ := a.grow c ps h; b.grow c qs h1⟩
/-- tables stand where nothing that they lean on changes -/
theorem Tab.keep {H H' : Hp} (k : ∀ b ps, H b = some (.tbl ps) → H' b = some (.tbl ps)) (kc : ∀ b c P, H b = some (codeH c P) → H' b = some (codeH c P)) : ∀ {d : Nat} {P : Addr}, Tab d H P → Tab d H' P := by
  intro d
  induction d with
  | zero =>
    intro P h
    obtain ⟨ps, h1, h2⟩ := h
    exact ⟨ps, k _ _ h1, h2⟩
  | succ d ih =>
    intro P h
    obtain ⟨ps, h1, h2, h3⟩ := h
    refine ⟨ps, k _ _ h1, h2, fun pos cv hc => ?_⟩
    obtain ⟨c, P', e, hC, hT⟩ := h3 pos cv hc
    exact ⟨c, P', e, kc _ _ _ hC, ih hT⟩
theorem ExtT.of {H H' : Hp} (e : ∀ b o, H b = some o → H' b = some o) : ExtT H H' := ⟨fun b o h _ => e b o h, fun P h d => (h d).keep (fun b ps z => e b _ z) fun b c P z => e b _ z, fun b ps h => ⟨ps, e b _ h⟩⟩
theorem tabA_nil {H : Hp} {P : Addr} (h : H P = some (.tbl #[])) : TabA H P := fun d => by
  have hn : ∀ (pos : Pos) (cv : Value), codeAmong pos (#[] : Array Value).toList = some cv → False := fun pos cv z => by
    have z : codeAmong pos [] = some cv := z
    simp [codeAmong] at z
  cases d with
  | zero => exact ⟨#[], h, trivial⟩
  | succ d => exact ⟨#[], h, trivial, fun pos cv hc => (hn pos cv hc).elim⟩
/-- an object that is written (neither table nor code object) -/
theorem tabA_upd {H : Hp} {a : Addr} {o o' : HO} (ha : H a = some o) (h1 : ∀ ps, o ≠ .tbl ps) (h2 : ∀ c P, o ≠ codeH c P) : ∀ P, TabA H P → TabA (upd H a o') P := fun P h d =>
  (h d).keep (fun b ps e => by
    rw [upd_ne (fun z => by rw [z, ha] at e; exact h1 ps (Option.some.inj e))]
    exact e) fun b c P' e => by
    rw [upd_ne (fun z => by rw [z, ha] at e; exact h2 c P' (Option.some.inj e))]
    exact e

section
variable {X : Cx} {pins : List (Addr × Obj)} {σ : L2.St} {H : Hp} {s : Shared}
/-- the table at P has grown by a new code object at c', whose table is new at P' -/
theorem inv_code {P c' P' : Addr} {ps more : Array Value} {h' : Heap} {t' : Nat} (I : Inv X pins σ H s) (hP : H P = some (.tbl ps)) (k : ∀ b o, b ≠ P → s.heap.get? b = some o → h'.get? b = some o)
    (hm : h'.get? P = some { cls := .none, data := .fields (ps ++ more) }) (hc : s.heap.objs.size ≤ c') (hp : s.heap.objs.size ≤ P') (hcp : c' ≠ P') (ho : PySem.W.CodeHd h' c' P') (hp' : h'.get? P' = some { cls := .none, data := .fields #[] }) :
    Inv X pins σ (upd (upd (upd H P (.tbl (ps ++ more))) P' (.tbl #[])) c' (codeH c' P')) { s with heap := h', toks := t' } := by
  have nC : H c' = none := I.hok.fresh hc
  have nP' : H P' = none := I.hok.fresh hp
  have nPc : P ≠ c' := ne_of_none hP nC
  have nPp : P ≠ P' := ne_of_none hP nP'
  have at_ : ∀ b, b ≠ P → b ≠ P' → b ≠ c' → upd (upd (upd H P (.tbl (ps ++ more))) P' (.tbl #[])) c' (codeH c' P') b = H b := fun b h1 h2 h3 => by rw [upd_ne h3, upd_ne h2, upd_ne h1]
  have atP : upd (upd (upd H P (.tbl (ps ++ more))) P' (.tbl #[])) c' (codeH c' P') P = some (.tbl (ps ++ more)) := by rw [upd_ne nPc, upd_ne nPp, upd_same]
  have nP : ∀ b u, H b = some u → (∀ q, u ≠ .tbl q) → b ≠ P := fun b u e q z => by
    rw [z, hP] at e
    exact q ps (Option.some.inj e).symm
  have nN : ∀ b, H b = none → b ≠ P := fun b e z => by
    rw [z, hP] at e
    cases e
  have lt' : ∀ b o, s.heap.get? b = some o → b ≠ c' ∧ b ≠ P' := fun b o e => ⟨fun z => by
    rw [z] at e
    exact Nat.lt_irrefl _ (Nat.lt_of_lt_of_le (Heap.lt_size e) hc), fun z => by
    rw [z] at e
    exact Nat.lt_irrefl _ (Nat.lt_of_lt_of_le (Heap.lt_size e) hp)⟩
  have sm : ∀ b u, H b = some u → b ≠ P' ∧ b ≠ c' := fun b u e => ⟨ne_of_none e nP', ne_of_none e nC⟩
  refine I.step (g' := s.gens) (d' := s.drawn) (ch := []) (fun b hb => absurd hb (by simp)) (fun b o _ _ _ e n => k b o (nN b n) e) (fun b o _ _ _ e n => ⟨o.slots, k b o (nN b n) e⟩)
    (fun b o _ e n => by rw [at_ b (nN b n) (lt' b o e).2 (lt' b o e).1]; exact n) (fun b o _ e => ?_) (fun b xs e => by rw [at_ b (nP b _ e (fun q z => by cases z)) (sm b _ e).1 (sm b _ e).2]; exact e) (fun b o u e => by rw [at_ b (nP b _ e (fun q z => by cases z)) (sm b _ e).1 (sm b _ e).2]; exact e) (fun b qs e => ?_) (fun m hn => ?_) (fun b u e => ?_) I.bare
  · by_cases hb : b = P
    · rw [hb]
      exact ⟨_, hm⟩
    · exact ⟨o, k b o hb e⟩
  · by_cases hb : b = P
    · rw [hb, hP] at e
      cases e
      rw [hb, atP]
      exact ⟨more, rfl⟩
    · rw [at_ b hb (sm b _ e).1 (sm b _ e).2, e]
      exact ⟨#[], by simp⟩
  · obtain ⟨ob, es, ep, ho, r⟩ := hn
    exact ⟨ob, es, ep, k _ ob (nN _ I.free) ho, r⟩
  · by_cases hb : b = c'
    · rw [hb, upd_same] at e
      cases e
      rw [hb]
      obtain ⟨oc, r⟩ := id ho
      refine ⟨ho, ?_, fun h1 h2 z st => ?_⟩
      · obtain ⟨vs, file, tf, flags, tg, inF, text, tt, e1, _⟩ := r
        exact ⟨oc, e1⟩
      · obtain ⟨o, vs, file, tf, flags, tg, inF, text, tt, e1, r⟩ := z
        exact ⟨o, vs, file, tf, flags, tg, inF, text, tt, st _ e1, r⟩
    · by_cases hb2 : b = P'
      · rw [upd_ne hb, hb2, upd_same] at e
        cases e
        rw [hb2]
        exact hp'
      · by_cases hb3 : b = P
        · rw [hb3, atP] at e
          cases e
          rw [hb3]
          exact hm
        · rw [at_ b hb3 hb2 hb] at e
          refine (I.hok b u e).stay (fun d v hd q => k d v ?_ q) (fun d q => by rw [at_ d (nP d _ q (fun q z => by cases z)) (sm d _ q).1 (sm d _ q).2]; exact q) fun d xs q => by rw [at_ d (nP d _ q (fun q z => by cases z)) (sm d _ q).1 (sm d _ q).2]; exact q
          rcases hd with z | z
          · rw [z]
            exact hb3
          · exact nP d _ z (fun q z => by cases z)
/-- what the tables are then -/
theorem ext_code {P c' P' : Addr} {ps : Array Value} {pos : Pos} (hP : H P = some (.tbl ps)) (ht : TriplesOk ps.toList) (nC : H c' = none) (nP' : H P' = none) (hcp : c' ≠ P') :
    ExtT H (upd (upd (upd H P (.tbl (ps ++ #[rawInt pos.line, rawInt pos.col, .ref c']))) P' (.tbl #[])) c' (codeH c' P')) := by
  generalize hH' : upd (upd (upd H P (.tbl (ps ++ #[rawInt pos.line, rawInt pos.col, .ref c']))) P' (.tbl #[])) c' (codeH c' P') = H'
  have nPc : P ≠ c' := ne_of_none hP nC
  have nPp : P ≠ P' := ne_of_none hP nP'
  have eP' : H' P' = some (.tbl #[]) := by rw [← hH', upd_ne (Ne.symm hcp), upd_same]
  have ec' : H' c' = some (codeH c' P') := by rw [← hH', upd_same]
  have eP : H' P = some (.tbl (ps ++ #[rawInt pos.line, rawInt pos.col, .ref c'])) := by rw [← hH', upd_ne nPc, upd_ne nPp, upd_same]
  have other : ∀ b o, H b = some o → b ≠ P → H' b = some o := fun b o e h => by
    rw [← hH', upd_ne (ne_of_none e nC), upd_ne (ne_of_none e nP'), upd_ne h]
    exact e
  have nP : ∀ b u, H b = some u → (∀ q, u ≠ .tbl q) → b ≠ P := fun b u e q z => by
    rw [z, hP] at e
    exact q ps (Option.some.inj e).symm
  refine ⟨fun b o e n => other b o e (nP b o e n), fun Q h d => ?_, fun b qs e => ?_⟩
  rotate_left
  · by_cases hb : b = P
    · exact ⟨_, by rw [hb]; exact eP⟩
    · exact ⟨qs, other b _ e hb⟩
  -- by the depth, for all tables
  have main : ∀ d Q, Tab d H Q → Tab d H' Q := by
    intro d
    induction d with
    | zero =>
      intro Q h
      obtain ⟨qs, h1, h2⟩ := h
      by_cases hQ : Q = P
      · rw [hQ, hP] at h1
        cases h1
        rw [hQ]
        refine ⟨_, eP, ?_⟩
        have := TriplesOk_snoc pos.line pos.col (.ref c') ps.toList ht
        simpa [rawInt] using this
      · exact ⟨qs, other _ _ h1 hQ, h2⟩
    | succ d ih =>
      intro Q h
      obtain ⟨qs, h1, h2, h3⟩ := h
      by_cases hQ : Q = P
      · rw [hQ, hP] at h1
        cases h1
        rw [hQ]
        refine ⟨_, eP, ?_, fun p' cv hc => ?_⟩
        · have := TriplesOk_snoc pos.line pos.col (.ref c') ps.toList ht
          simpa [rawInt] using this
        · rw [Array.toList_append] at hc
          rcases LamX.among_app _ ht hc with z | z
          · obtain ⟨c, P2, e, hC, hT⟩ := h3 p' cv z
            exact ⟨c, P2, e, other _ _ hC (nP _ _ hC codeH_ne), ih P2 hT⟩
          · exact ⟨c', P', z, ec', tabA_nil eP' d⟩
      · refine ⟨qs, other _ _ h1 hQ, h2, fun p' cv hc => ?_⟩
        obtain ⟨c, P2, e, hC, hT⟩ := h3 p' cv hc
        exact ⟨c, P2, e, other _ _ hC (nP _ _ hC codeH_ne), ih P2 hT⟩
  exact main d Q (h d)
end

/-- the running code object at c, its table at P -/
structure CodeT (X : Cx) (c P : Addr) (H : Hp) : Prop where
  code : X.env.code = .ref c
  hd : PySem.W.CodeHd X.base c P ∨ H c = some (codeH c P)
  tab : TabA H P
/-- the module's __builtins__ -/
def BuiltM (base : Heap) (mg : Str → Option Value) : Prop := ∃ (bm : Addr) (ob : Obj), mg "__builtins__" = some (.ref bm) ∧ bm ≠ builtinsNs ∧ base.get? bm = some ob ∧ ob.cls = .type "module" ∧ ob.dict = some builtinsNs ∧ ob.data = .plain
section
variable {X : Cx} {pins : List (Addr × Obj)} {σ : L2.St} {H : Hp} {s : Shared}
theorem CodeT.at {c P : Addr} (C : CodeT X c P H) (I : Inv X pins σ H s) : PySem.W.CodeHd s.heap c P := by
  rcases C.hd with h | h
  · exact h.keeps I.bk
  · exact (I.hok c _ h).1
/-- the code object of a generator expression: found, or made -/
theorem code_make {c P : Addr} {pos : Pos} {qual : Str} {scope : Scope} {Q : Value → Shared → Prop} {E : Value → Shared → Prop} (I : Inv X pins σ H s) (C : CodeT X c P H)
    (h : ∀ c' P' H' s', Inv X pins σ H' s' → (∀ b o, b ≠ P → s.heap.get? b = some o → s'.heap.get? b = some o) → (∀ b, b < s.heap.objs.size → H b = none → H' b = none) → ExtT H H' → H' c' = some (codeH c' P') → TabA H' P' → Q (.ref c') s') :
    wpAny (model X.prog X.w) X.A (genexprCode X.env pos qual scope) Q E s := by
  obtain ⟨ps, hP, ht, h3⟩ := C.tab 1
  have hPs : s.heap.get? P = some { cls := .none, data := .fields ps } := I.hok P _ hP
  have cd := C.at I
  cases hf : codeAmong pos ps.toList with
  | none =>
    refine wpAny_genexprCodeX C.code (cd.code hPs ht) (cd.tab hPs) hf fun c' h' tk hx hge hlt hco' hrec' htab' hnew => ?_
    obtain ⟨P', hp', hic, hta⟩ := hnew
    have cd' : PySem.W.CodeHd h' c' P' := PySem.W.CodeHd.of hic hta
    have hcp : c' ≠ P' := by
      obtain ⟨_, _, _, _, _, _, _, _, _, _, _, _, _, _, _, _, _, _, z⟩ := cd'
      exact z
    have nC : H c' = none := I.hok.fresh hge
    have nP' : H P' = none := I.hok.fresh hp'
    refine h c' P' _ _ (inv_code (more := #[rawInt pos.line, rawInt pos.col, .ref c']) (t' := tk) I hP (fun b o hb e => hx b o hb e) htab'.2 hge hp' hcp cd' hta.2) (fun b o hb e => hx b o hb e) (fun b hb hn => ?_) (ext_code hP ht nC nP' hcp) upd_same
      (tabA_nil (by rw [upd_ne (Ne.symm hcp), upd_same]))
    rw [upd_ne (fun z => by rw [z] at hb; exact Nat.lt_irrefl _ (Nat.lt_of_lt_of_le hb hge)), upd_ne (fun z => by rw [z] at hb; exact Nat.lt_irrefl _ (Nat.lt_of_lt_of_le hb hp')), upd_ne (fun z => by rw [z, hP] at hn; cases hn)]
    exact hn
  | some cv =>
    refine wpAny_genexprCode_hit C.code (cd.code hPs ht) hf ?_
    obtain ⟨c', P', e, hC, _⟩ := h3 pos cv hf
    subst e
    refine h c' P' H s I (fun b o _ e => e) (fun b _ hn => hn) (ExtT.refl H) hC fun d => ?_
    obtain ⟨ps2, hP2, _, h32⟩ := C.tab (d + 1)
    rw [hP] at hP2
    cases hP2
    obtain ⟨c2, P2, e2, hC2, hT2⟩ := h32 pos _ hf
    cases e2
    rw [hC] at hC2
    have : P' = P2 := by
      have z := (I.hok c' _ hC).1
      have z2 : (codeH c' P' : HO) = codeH c' P2 := Option.some.inj hC2
      have w2 : PySem.W.CodeHd s.heap c' P2 := by
        have e3 : (fun h => PySem.W.CodeHd h c' P') = fun h => PySem.W.CodeHd h c' P2 := HO.ext.inj z2
        exact (congrFun e3 s.heap) ▸ z
      obtain ⟨o1, vs1, _, _, _, _, _, _, _, a1, _, a3, a4, _⟩ := z
      obtain ⟨o2, vs2, _, _, _, _, _, _, _, b1, _, b3, b4, _⟩ := w2
      rw [a1] at b1
      cases b1
      rw [a3] at b3
      cases b3
      rw [a4] at b4
      cases b4
      rfl
    subst this
    exact hT2
end
end Gx
set_option Elab.async false
set_option linter.all false
set_option maxRecDepth 100000
set_option maxHeartbeats 2000000
namespace Gx
open PySem PySem.Spec PyProof.Rows L2 GenW

/-- the frame of a generator expression -/
abbrev gEnv (X : Cx) (scope : Scope) (C : Addr) (cl : List (Str × Addr)) (code : Value) : Env :=
  { scope, locals := C, globals := X.env.globals, cells := cl, qual := X.env.qual ++ "<genexpr>.", func := none, code, frame := some C, builtins := builtinsNs }
section
variable {X : Cx} {pins : List (Addr × Obj)} {σ : L2.St} {H : Hp} {s : Shared}
theorem gen_newEnv {M : Model} {A : Around} {E : Value → Shared → Prop} {scope : Scope} {cl : List (Str × Addr)} {it code : Value} {Q : Env → Shared → Prop} (hk : scope.kind = .function) (h0 : scope.names.lookup (".0" : Str) = some NameKind.local)
    (h : ∀ h' tk m, h'.Ns s.heap.objs.size m → Heap.SameBut s.heap.objs.size (pushCells (s.heap.push { cls := .type "frame", data := .dict #[] }) scope.names) h' →
      Q (gEnv X scope s.heap.objs.size (cellsFrom (s.heap.objs.size + 1) scope.names cl) code) { s with heap := h', toks := tk }) :
    wpAny M A (newFunctionEnv scope X.env.globals cl [(".0", it)] (X.env.qual ++ "<genexpr>.") none code none builtinsNs) Q E s := by
  simp only [newFunctionEnv, Option.isSome_none, Bool.false_eq_true, if_false]
  refine wpAny_bind (wpAny_alloc ?_)
  refine wpAny_bind (wpAny_layCells _ (fun n k c => rfl) scope.names cl _ _ ?_)
  rw [show ({ s with heap := s.heap.push { cls := .type "frame", data := .dict #[] } } : Shared).heap.objs.size = s.heap.objs.size + 1 from Heap.size_push ..]
  rw [List.forIn_cons]
  have hn : (pushCells (s.heap.push { cls := .type "frame", data := .dict #[] }) scope.names).Ns s.heap.objs.size (fun _ => none) :=
    Heap.Ns.keeps (Heap.Ns.new ..) fun b o e => pushCells_keeps _ _ _ _ e
  refine wpAny_bind (wpAny_bind (wpAny_bind ?_))
  refine wpAny_storeName_local (m := fun _ => none) h0 hn (fun h' hn' hs => ?_) (by show (scope.kind == .class || (scope.kind == .module && _)) = false; rw [hk]; rfl)
  refine wpAny_pure ?_
  show wpAny M A (forIn [] _ _) _ _ _
  rw [List.forIn_nil]
  exact wpAny_pure (wpAny_pure (h h' _ _ hn' hs))

/-- the context of the generator's code, just made: s the state ahead of its frame; s5 any state since in which all that stood stands -/
theorem gen_start {scope : Scope} {own : List (Str × Nat)} {fp : List Addr} {A : Around} {code : Value} {m : Str → Option Value} {s5 : Shared} {go : List (Addr × Obj)} {po : List (Addr × Obj)}
    (I : Inv X pins σ H s) (ok : BlkOk X.N X.env.scope scope own) (hN : X.N.Nodup) (hfp : ∀ b ∈ fp, FpOk X pins H b ∧ b < s.heap.objs.size) (hh : A.handled = none)
    (hfr : A.frames = some (gEnv X scope s.heap.objs.size (cellsFrom (s.heap.objs.size + 1) scope.names (cloFrom X.env.cells scope.names [])) code :: X.stack))
    (os : s5.os = s.os) (hb : AllBare s5.gens) (hns : s5.heap.Ns s.heap.objs.size m) (k5 : ∀ b o, b ≠ s.heap.objs.size → (pushCells (s.heap.push { cls := .type "frame", data := .dict #[] }) scope.names).get? b = some o → s5.heap.get? b = some o)
    (hpo : ∀ p ∈ go ++ po, (pushCells (s.heap.push { cls := .type "frame", data := .dict #[] }) scope.names).objs.size ≤ p.1 ∧ s5.heap.get? p.1 = some p.2 ∧ ∀ v, p.2.data ≠ .cell v) :
    Inv (gCx X A s H (gEnv X scope s.heap.objs.size (cellsFrom (s.heap.objs.size + 1) scope.names (cloFrom X.env.cells scope.names [])) code) fp go) po (wipe σ (own.map (·.2))) H s5 := by
  have hfree : ∀ y ∈ scope.names, y.2 = .free → ∃ c, X.env.cells.lookup y.1 = some c := fun y hy e => by
    rcases ok.free y hy e with k | k
    · exact I.ok.has _ (.inl k)
    · exact I.ok.has _ (.inr k)
  generalize hcenv : gEnv X scope s.heap.objs.size (cellsFrom (s.heap.objs.size + 1) scope.names (cloFrom X.env.cells scope.names [])) code = cenv at hfr ⊢
  have kp0 : ∀ b o, s.heap.get? b = some o → (pushCells (s.heap.push { cls := .type "frame", data := .dict #[] }) scope.names).get? b = some o := fun b o e => pushCells_keeps _ _ _ _ (Heap.get?_push_of_some _ e)
  have kp : ∀ b o, s.heap.get? b = some o → s5.heap.get? b = some o := fun b o e => k5 b o (Nat.ne_of_lt (Heap.lt_size e)) (kp0 b o e)
  have hL : cenv.locals = s.heap.objs.size := by rw [← hcenv]
  have hcl : cenv.cells = cellsFrom (s.heap.objs.size + 1) scope.names (cloFrom X.env.cells scope.names []) := by rw [← hcenv]
  have hsc : cenv.scope = scope := by rw [← hcenv]
  rw [← Heap.size_push s.heap { cls := .type "frame", data := .dict #[] }] at hcl
  have cm : ∀ {y c}, (y, c) ∈ cloFrom X.env.cells scope.names [] → X.env.cells.lookup y = some c ∧ c < s.heap.objs.size := fun {y c} hm => by
    rcases cloFrom_mem hm with hm | ⟨h1, rfl⟩
    · cases hm
    · obtain ⟨c, hc⟩ := hfree _ h1 rfl
      rw [hc]
      obtain ⟨w, z⟩ := I.cell _ _ hc
      exact ⟨rfl, z.lt⟩
  have mem : ∀ {y c}, cenv.cells.lookup y = some c → (X.env.cells.lookup y = some c ∧ c < s.heap.objs.size) ∨ (s.heap.objs.size + 1 ≤ c ∧ CellAt (pushCells (s.heap.push { cls := .type "frame", data := .dict #[] }) scope.names) c none) := fun {y c} e => by
    rw [hcl] at e
    rcases cells_mem (PySem.mem_of_lookup e) with hm | ⟨_, h2, h3⟩
    · exact .inl (cm hm)
    · rw [Heap.size_push] at h2; exact .inr ⟨h2, h3⟩
  have cell5 : ∀ {c w}, CellAt (pushCells (s.heap.push { cls := .type "frame", data := .dict #[] }) scope.names) c w → c ≠ s.heap.objs.size → s5.heap.IsCell c w := fun {c w} z hne => by
    obtain ⟨o, e, d⟩ := z
    exact ⟨o, k5 _ _ hne e, d⟩
  have look : ∀ {y}, scope.names.lookup y = some .free → ∃ c, cenv.cells.lookup y = some c ∧ X.env.cells.lookup y = some c := fun {y} hl => by
    have hy : (y, NameKind.free) ∈ scope.names := PySem.mem_of_lookup hl
    obtain ⟨c', e'⟩ := mem_lookup (cells_acc (names := scope.names) (n := (s.heap.push { cls := .type "frame", data := .dict #[] }).objs.size) (cloFrom_has (cells := X.env.cells) (acc := []) hy))
    rw [← hcl] at e'
    refine ⟨c', e', ?_⟩
    rw [hcl] at e'
    rcases cells_mem (PySem.mem_of_lookup e') with hm | ⟨h1, _, _⟩
    · exact (cm hm).1
    · have := ok.uniq _ h1
      rw [hl] at this; cases this
  have frEq : frs (cenv :: X.stack) = s.heap.objs.size :: frs X.stack := by
    unfold frs
    rw [List.filterMap_cons, ← hcenv]
  have okB : (gCx X A s H cenv fp go).Ok := by
    refine ⟨I.ok.mod, by show cenv.scope.kind = _; rw [hsc]; exact ok.kind, by show cenv.globals = _; rw [← hcenv]; exact I.ok.glob, by show cenv.builtins = _; rw [← hcenv], by show s.heap.objs.size ≤ cenv.locals; rw [hL]; exact Nat.le_refl _,
      fun y z c e1 e2 => ?_, fun y hy => ?_, fun y c z e => ?_, fun _ => hh, hfr, .inr ⟨rfl, by show cenv.frame = some cenv.locals; rw [← hcenv]⟩, fun b hb => ⟨?_, fun y c e z => ?_⟩, I.bs, Nat.le_trans I.ok.bsz I.sz, fun b o e hb => ?_, fun b hb z => ?_, I.stack, I.stkFree⟩
    · have e1 : cenv.cells.lookup y = some c := e1
      have e2 : cenv.cells.lookup z = some c := e2
      rw [hcl] at e1 e2
      refine cells_inj (fun p hp => ?_) (fun y z c a b => I.ok.inj y z c (cm a).1 (cm b).1) (PySem.mem_of_lookup e1) (PySem.mem_of_lookup e2)
      rw [Heap.size_push]
      exact Nat.lt_succ_of_lt (cm (y := p.1) (c := p.2) hp).2
    · show ∃ c, cenv.cells.lookup y = some c
      have hy' : scope.names.lookup y = some .cell ∨ scope.names.lookup y = some .free := by
        have q : cenv.scope.names.lookup y = some .cell ∨ cenv.scope.names.lookup y = some .free := hy
        rw [hsc] at q
        exact q
      rcases hy' with e | e
      · obtain ⟨c, hm⟩ := cells_has (n := (s.heap.push { cls := .type "frame", data := .dict #[] }).objs.size) (acc := cloFrom X.env.cells scope.names []) (PySem.mem_of_lookup e)
        obtain ⟨c', e'⟩ := mem_lookup hm
        exact ⟨c', by rw [hcl]; exact e'⟩
      · obtain ⟨c, h1, _⟩ := look e
        exact ⟨c, h1⟩
    · have z : (cenv.scope.names.lookup y == some NameKind.cell) = true := z
      rw [hsc] at z
      have z : scope.names.lookup y = some .cell := by simpa using z
      have e : cenv.cells.lookup y = some c := e
      rw [hcl] at e
      rcases cells_mem (PySem.mem_of_lookup e) with hm | ⟨_, h2, _⟩
      · rcases cloFrom_mem hm with hm | ⟨h1, _⟩
        · cases hm
        · have q := ok.uniq _ h1
          rw [z] at q; cases q
      · rw [Heap.size_push] at h2
        exact Nat.le_of_succ_le h2
    · show b ≠ cenv.locals
      rw [hL]; exact Nat.ne_of_lt (hfp b hb).2
    · have e : cenv.cells.lookup y = some c := e
      rcases mem e with ⟨h1, _⟩ | ⟨h1, _⟩
      · exact (hfp b hb).1.2.2.2.2.1 y c h1 z
      · have h2 : s.heap.objs.size + 1 ≤ b := by rw [← z]; exact h1
        exact absurd (Nat.lt_of_lt_of_le (hfp b hb).2 (Nat.le_of_succ_le h2)) (Nat.lt_irrefl _)
    · rcases (hfp b hb).1.2.2.2.1 with z | z
      · exact I.ok.noex b o e z
      · exact absurd (Nat.lt_of_lt_of_le (Heap.lt_size e) (Nat.le_trans I.ok.bsz z)) (Nat.lt_irrefl _)
    · rcases List.mem_cons.mp (I.stkSub b z) with z | z
      · exact (hfp b hb).1.2.1 z
      · exact (hfp b hb).1.2.2.1 z
  refine ⟨okB, os, hb, Un.kept kp, ⟨m, ?_, fun i y av e1 e2 e3 => ?_⟩, fun y c e => ?_, ?_, fun y c e => ?_, fun p hp => ?_, I.hok.kept kp, by rw [wipe_length]; exact I.len⟩
  · show Heap.Ns _ cenv.locals _
    rw [hL]
    exact hns
  · obtain ⟨e2, hne⟩ := wipe_some e2
    have hfr : scope.names.lookup y = some .free ∧ (cenv.kindOf y = some .cell ∨ cenv.kindOf y = some .free) := by
      have key : ∀ k, cenv.scope.names.lookup y = some k → k = .local ∨ k = .cell ∨ k = .free → scope.names.lookup y = some .free ∧ (cenv.kindOf y = some .cell ∨ cenv.kindOf y = some .free) := fun k hk hk' => by
        have hk0 := hk
        rw [hsc] at hk
        have no : ¬ (k = .local ∨ k = .cell) := fun hh => by
          rcases ok.own _ (PySem.mem_of_lookup hk) hh with e' | e'
          · obtain ⟨p, hp, hpy⟩ := List.mem_map.mp e'
            have e3 := ok.ix p hp
            have : p.1 = y := hpy
            rw [this] at e3
            exact hne (List.mem_map.mpr ⟨p, hp, nodup_ix hN e3 e1⟩)
          · exact e' (List.mem_of_getElem? e1)
        rcases hk' with rfl | rfl | rfl
        · exact absurd (.inl rfl) no
        · exact absurd (.inr rfl) no
        · exact ⟨hk, .inr hk0⟩
      have e3 : Vis cenv.scope y := e3
      rcases e3 with e3 | e3 | e3
      · exact key _ e3 (.inl rfl)
      · exact key _ e3 (.inr (.inl rfl))
      · exact key _ e3 (.inr (.inr rfl))
    obtain ⟨m, hn, hl⟩ := I.loc
    have hvis : Vis X.env.scope y := (ok.free _ (PySem.mem_of_lookup hfr.1) rfl).elim (fun k => .inr (.inl k)) (fun k => .inr (.inr k))
    obtain ⟨w, r, q⟩ := hl i y av e1 e2 hvis
    refine ⟨w, r, .inr ⟨hfr.2, ?_⟩⟩
    obtain ⟨c, h1, h2⟩ := look hfr.1
    rcases q with ⟨k, _⟩ | ⟨_, c', e', z⟩
    · have k : X.env.scope.names.lookup y = some .local := k
      rcases ok.free _ (PySem.mem_of_lookup hfr.1) rfl with k' | k' <;> rw [show X.env.scope.names.lookup y = _ from k'] at k <;> cases k
    · rw [h2] at e'; cases e'
      exact ⟨c, h1, z.keeps kp⟩
  · have e : cenv.cells.lookup y = some c := e
    rcases mem e with ⟨h1, _⟩ | ⟨h1, z⟩
    · obtain ⟨w, z⟩ := I.cell y c h1
      exact ⟨w, z.keeps kp⟩
    · exact ⟨_, cell5 z (Nat.ne_of_gt h1)⟩
  · show H cenv.locals = none
    rw [hL]; exact I.hok.fresh (Nat.le_refl _)
  · have e : cenv.cells.lookup y = some c := e
    rcases mem e with ⟨h1, _⟩ | ⟨h1, _⟩
    · exact I.freeC y c h1
    · exact I.hok.fresh (Nat.le_of_succ_le h1)
  · have hp : p ∈ go ++ po := hp
    obtain ⟨h1, h2, h3⟩ := hpo p hp
    have h4 : s.heap.objs.size < p.1 := by
      refine Nat.lt_of_lt_of_le ?_ h1
      refine Nat.lt_of_lt_of_le ?_ (pushCells_size _ _)
      rw [Heap.size_push]
      exact Nat.lt_succ_self _
    refine ⟨h2, I.hok.fresh (Nat.le_of_lt h4), ?_, fun z => ?_, h3⟩
    · show p.1 ≠ cenv.locals
      rw [hL]
      exact Nat.ne_of_gt h4
    · have z : p.1 ∈ frs X.stack := z
      rcases List.mem_cons.mp (I.stkSub _ z) with z | z
      · exact absurd I.lt (by rw [← z]; exact Nat.not_lt_of_lt h4)
      · exact I.nofs (Nat.le_of_lt h4) z
end
end Gx
set_option Elab.async false
set_option linter.all false
set_option maxRecDepth 100000
set_option maxHeartbeats 2000000
namespace Gx
open PySem PySem.Spec PyProof.Rows L2 GenW

/-- a generator (of a generator expression) that has not begun -/
def GMd (X : Cx) (pins : List (Addr × Obj)) (σ : L2.St) (k : Nat) (Fin : List V → V → Hp → Prop) (Go : List V → V → Prop) (K : List V → Hp → Prop) (u : Value) (s : Shared) : Prop :=
  ∃ (a : Addr) (g n : Nat) (H : Hp), u = .ref a ∧ a < s.heap.objs.size ∧ s.heap.IsGen a g ∧ Inv X pins σ H s ∧
    ∀ (Ac : Around) (s' : Shared) (po : List (Addr × Obj)), Room (k + 1) Ac → Ac.frames = some X.stack → s'.os = s.os → s'.gens = s.gens → (∀ b o, s.heap.get? b = some o → s'.heap.get? b = some o) →
      (∀ p ∈ po, s.heap.objs.size ≤ p.1 ∧ s'.heap.get? p.1 = some p.2 ∧ ∀ v, p.2.data ≠ .cell v) → GLive X pins σ a g Ac Fin Go K n ([], po) s'

/-- the reading of a generator expression -/
def tGx (X : Cx) (wi : TI) (g : TG) (tt : TT) (te : Value → TE) (vs : List Nat) (Fin : List V → V → Hp → Prop) (Go : List V → V → Prop) (K : List V → Hp → Prop) (σ : L2.St) (H : Hp) : Prop :=
  wi σ H fun J H1 => ∃ c P, CodeT X c P H1 ∧ ∀ c' P' H2, ExtT H1 H2 → H2 c' = some (codeH c' P') → TabA H2 P' → ∃ W : Nat → Nat → List V → Hp → Prop, (∃ m, W 0 m [] H2) ∧ gTurn J g tt (te (.ref c')) vs σ Fin Go K W

theorem gA_room {k : Nat} {A : Around} {elt tg iter : Expr} {ifs : List Expr} {scope : Scope} {pos : Pos} {it : Addr} {cenv : Env} (r : Room (k + 1) A) : Room k (gA A.in1 elt tg iter ifs scope pos it cenv) := by
  obtain ⟨h1, h2, h3⟩ := r
  refine ⟨h1, ?_, ?_⟩
  · show A.depth + 0 + 1 + 3 * k + 5 < _
    omega
  · show A.units + 1 + 0 + 3 + 16 * k + 200 < _
    omega
theorem gA_frames {A : Around} {elt tg iter : Expr} {ifs : List Expr} {scope : Scope} {pos : Pos} {it : Addr} {cenv : Env} {st : List Env} (h : A.frames = some st) : (gA A.in1 elt tg iter ifs scope pos it cenv).frames = some (cenv :: st) := by
  show pushEnvs [cenv] (pushEnvs [] A.in1.frames) = _
  have e : A.in1.frames = some st := h
  show (A.in1.frames).map ([cenv] ++ ·) = _
  rw [e]
  rfl
section
variable {X : Cx} {pins : List (Addr × Obj)} {σ : L2.St} {H : Hp} {s : Shared} {k : Nat} {elt tg iter : Expr} {ifs : List Expr} {scope : Scope} {pos : Pos} {own : List (Str × Nat)} {wi : TI} {g : TG} {tt : TT} {te : Value → TE}
  {Fin : List V → V → Hp → Prop} {Go : List V → V → Prop} {K : List V → Hp → Prop}
theorem gen_make (hr : Room (k + 2) X.A) (hN : X.N.Nodup) (hbm : BuiltM X.base X.mg) (hco : scope.isCoroutine = false) (ok : BlkOk X.N X.env.scope scope own) (h0 : scope.names.lookup (".0" : Str) = some NameKind.local) (hi : PI X tg iter wi)
    (hg : ∀ (A : Around) (s : Shared) (H : Hp) (C : Addr) (cl : List (Str × Addr)) (code : Value) (fp : List Addr) (go : List (Addr × Obj)), Room k A → PG (gCx X A s H (gEnv X scope C cl code) fp go) tg g)
    (ht : ∀ (A : Around) (s : Shared) (H : Hp) (C : Addr) (cl : List (Str × Addr)) (code : Value) (fp : List Addr) (go : List (Addr × Obj)), Room k A → PTs (gCx X A s H (gEnv X scope C cl code) fp go) ifs tt)
    (he : ∀ (A : Around) (s : Shared) (H : Hp) (C : Addr) (cl : List (Str × Addr)) (code : Value) (fp : List Addr) (go : List (Addr × Obj)), Room k A → PE (gCx X A s H (gEnv X scope C cl code) fp go) elt (te code))
    (hs : ∀ v, genFold iter X.env v = pure v) (I : Inv X pins σ H s) (h : tGx X wi g tt te (own.map (·.2)) Fin Go K σ H) :
    wpAny (model X.prog X.w) X.A (eval (.GeneratorExp elt [⟨tg, iter, ifs, 0⟩] scope pos) X.env) (GMd X pins σ k Fin Go K) X.xe s := by
  have hfree : ∀ y ∈ scope.names, y.2 = .free → ∃ c, X.env.cells.lookup y.1 = some c := fun y hy e => by
    rcases ok.free y hy e with k | k
    · exact I.ok.has _ (.inl k)
    · exact I.ok.has _ (.inr k)
  rw [eval_GeneratorExp1 _ _ _ _ _ _ _ hco, closure_ok hfree]
  refine wpAny_bind (thn (hi.run pins s σ H _ I h) fun xv s1 hx => ?_)
  refine wpAny_bind (wpAny_standAt ?_)
  refine wpAny_bind (wpAny_of_eq (hs xv) ?_)
  refine wpAny_bind (wpAny_holding (thn hx fun itv s2 h2 => ?_))
  obtain ⟨it, fp, tn, J, H2, e, I2, T, st2, f2, c, P, hC, hrest⟩ := h2
  subst e
  refine wpAny_bind (wpAny_enterFrame I2.nolimit hr.depth ?_)
  refine wpAny_bind (wpAny_pure ?_)
  refine wpAny_bind (code_make I2 hC fun c' P' H3 s3 I3 k3 fr3 ex3 hc3 hT3 => ?_)
  obtain ⟨W, ⟨m0, w0⟩, turn⟩ := hrest c' P' H3 ex3 hc3 hT3
  -- the iterator's own objects
  obtain ⟨psP, hPP, _⟩ := hC.tab 0
  have bP : ∀ b ∈ fp, b ≠ P ∧ b < s2.heap.objs.size := fun b hb => by
    obtain ⟨o, e, _⟩ := T.obj _ _ st2 b hb
    refine ⟨fun z => ?_, Heap.lt_size e⟩
    have := (f2 b hb).1
    rw [z, hPP] at this
    cases this
  have st3 : tn 0 s3.heap := T.keep _ _ _ st2 fun b hb o e => k3 b o (bP b hb).1 e
  have f3 : ∀ b ∈ fp, FpOk X pins H3 b ∧ b < s3.heap.objs.size := fun b hb => by
    obtain ⟨o, e, _⟩ := T.obj _ _ st2 b hb
    exact ⟨⟨fr3 b (bP b hb).2 (f2 b hb).1, (f2 b hb).2⟩, Heap.lt_size (k3 b o (bP b hb).1 e)⟩
  -- the builtins
  obtain ⟨bm, ob, m1, m2, m3, m4, m5, m6⟩ := hbm
  refine wpAny_bind (wpAny_builtinsFor (m := X.mg) (by rw [I3.ok.glob]; exact I3.mod.glob.keeps I3.bk) m1 m2 (I3.bk _ _ m3) m4 m5 m6 ?_)
  refine wpAny_bind (gen_newEnv ok.kind h0 fun h4 tk m hns hsb => ?_)
  simp only [newGenerator, newFields]
  refine wpAny_bind (wpAny_newGen (wpAny_bind (wpAny_mkText (wpAny_bind (wpAny_mkText (wpAny_newObj_type ?_ (by size_fits)))))))
  -- what stands now
  have szC : (pushCells (s3.heap.push { cls := .type "frame", data := .dict #[] }) scope.names).objs.size = h4.objs.size := hsb.1.symm
  have lt4 : s3.heap.objs.size < h4.objs.size := by
    rw [← szC]
    refine Nat.lt_of_lt_of_le ?_ (pushCells_size _ _)
    rw [Heap.size_push]
    exact Nat.lt_succ_self _
  have kp4 : ∀ b o, s3.heap.get? b = some o → h4.get? b = some o := fun b o e => (hsb.2 b (Nat.ne_of_lt (Heap.lt_size e))).trans (pushCells_keeps _ _ _ _ (Heap.get?_push_of_some _ e))
  generalize hgo : ({ cls := .type "generator", data := .fields #[.int s3.gens.size 0, .str "<genexpr>" (tk), .str (X.env.qual ++ "<genexpr>") (tk + 1)] } : Obj) = go
  have key : ∀ (s6 : Shared), s6.os = s3.os → AllBare s6.gens → s6.heap = h4.push go → s6.gens[s3.gens.size]? = some (.fresh (.compStart (.GeneratorExp elt [⟨tg, iter, ifs, 0⟩] scope pos) 0 (.ref it) .none (gEnv X scope s3.heap.objs.size (cellsFrom (s3.heap.objs.size + 1) scope.names (cloFrom X.env.cells scope.names [])) (.ref c')))) →
      GMd X pins σ k Fin Go K (.ref h4.objs.size) s6 := by
    intro s6 e1 e2 e3 e4
    have kp6 : ∀ b o, s3.heap.get? b = some o → s6.heap.get? b = some o := fun b o e => by
      rw [e3]
      exact Heap.get?_push_of_some _ (kp4 b o e)
    have atg : s6.heap.get? h4.objs.size = some go := by
      rw [e3]
      exact Heap.get?_push_size _ (by rw [← hgo]; rfl)
    have isg : ∀ {h : Heap}, h.get? h4.objs.size = some go → h.IsGen h4.objs.size s3.gens.size := fun {h} e => ⟨go, _, _, e, by rw [← hgo], by rw [← hgo], by rw [← hgo]⟩
    have gcell : ∀ v, go.data ≠ .cell v := fun v z => by
      rw [← hgo] at z
      cases z
    have I6 : Inv X pins σ H3 s6 := I3.call' (ch := []) e1 (Un.kept kp6) (I3.hok.kept kp6) e2 (fun b hb => absurd hb (by simp))
    have sz6 : s6.heap.objs.size = h4.objs.size + 1 := by rw [e3, Heap.size_push]
    refine ⟨_, _, m0 + 1, H3, rfl, by rw [sz6]; exact Nat.lt_succ_self _, isg atg, I6, ?_⟩
    intro Ac s' po hrA hfrA o1 o2 o3 hpo
    have lim' : s'.heap.NoLimit := (I6.nolimit).keeps o3
    have csz : cStatics < s6.heap.objs.size := by
      obtain ⟨_, hn, _⟩ := I6.nolimit
      exact hn.lt
    refine ⟨isg (o3 _ _ atg), lim', fun b hb => ?_, _, by rw [o2]; exact e4, ?_⟩
    · obtain ⟨p, hp, e⟩ := List.mem_map.mp hb
      have q := (hpo p hp).1
      rw [sz6] at q
      subst e
      refine ⟨Nat.ne_of_gt q, Nat.ne_of_gt (Nat.lt_of_lt_of_le csz (by rw [sz6]; exact q))⟩
    show SegG _ _ _ _ _ _ _ _ _ _
    have rm := gA_room (elt := elt) (tg := tg) (iter := iter) (ifs := ifs) (scope := scope) (pos := pos) (it := it) (cenv := gEnv X scope s3.heap.objs.size (cellsFrom (s3.heap.objs.size + 1) scope.names (cloFrom X.env.cells scope.names [])) (.ref c')) hrA
    have fr := gA_frames (elt := elt) (tg := tg) (iter := iter) (ifs := ifs) (scope := scope) (pos := pos) (it := it) (cenv := gEnv X scope s3.heap.objs.size (cellsFrom (s3.heap.objs.size + 1) scope.names (cloFrom X.env.cells scope.names [])) (.ref c')) hfrA
    have bare' : AllBare (s'.setGen s3.gens.size .running).gens := allBare_setGen (by rw [o2]; exact e2) rfl
    have Ig := gen_start (s5 := s'.setGen s3.gens.size .running) (m := m) (go := [(h4.objs.size, go)]) (po := po) I3 ok hN f3 rm.hd fr (o1.trans e1) bare' (hns.keeps fun b o e => o3 b o (by rw [e3]; exact Heap.get?_push_of_some _ e))
      (fun b o hb e => o3 b o (by rw [e3]; exact Heap.get?_push_of_some _ ((hsb.2 b hb).trans e))) (fun p hp => by
        rcases List.mem_append.mp hp with hp | hp
        · rw [List.mem_singleton.mp hp]
          exact ⟨by rw [szC]; exact Nat.le_refl _, o3 _ _ atg, gcell⟩
        · obtain ⟨q1, q2, q3⟩ := hpo p hp
          refine ⟨?_, q2, q3⟩
          rw [szC]
          rw [sz6] at q1
          exact Nat.le_of_succ_le q1)
    have apart : ∀ b, s6.heap.objs.size ≤ b → (gCx X (gA Ac.in1 elt tg iter ifs scope pos it (gEnv X scope s3.heap.objs.size (cellsFrom (s3.heap.objs.size + 1) scope.names (cloFrom X.env.cells scope.names [])) (.ref c'))) s3 H3 (gEnv X scope s3.heap.objs.size (cellsFrom (s3.heap.objs.size + 1) scope.names (cloFrom X.env.cells scope.names [])) (.ref c')) fp [(h4.objs.size, go)]).s_0.heap.objs.size ≤ b ∧ b ≠ s3.heap.objs.size ∧
        (∀ x c, (cellsFrom (s3.heap.objs.size + 1) scope.names (cloFrom X.env.cells scope.names [])).lookup x = some c → c ≠ b) ∧ (∀ p ∈ [(h4.objs.size, go)], p.1 ≠ b) ∧ b ∉ fp := fun b hb => by
      have hlt : h4.objs.size < b := by
        rw [sz6] at hb
        exact hb
      have h3b : s3.heap.objs.size < b := Nat.lt_trans lt4 hlt
      refine ⟨Nat.le_of_lt h3b, Nat.ne_of_gt h3b, fun x c e z => ?_, fun p hp => ?_, fun hb' => ?_⟩
      · rw [← Heap.size_push s3.heap { cls := .type "frame", data := .dict #[] }] at e
        rcases cells_mem (PySem.mem_of_lookup e) with hm | ⟨_, _, hz⟩
        · rcases cloFrom_mem hm with hm | ⟨h1, rfl⟩
          · cases hm
          · obtain ⟨c, hc⟩ := hfree _ h1 rfl
            rw [hc] at z
            obtain ⟨w, q⟩ := I3.cell _ _ hc
            have := q.lt
            have z : c = b := z
            rw [z] at this
            exact absurd (Nat.lt_trans this h3b) (Nat.lt_irrefl _)
        · have q : c < (pushCells (s3.heap.push { cls := .type "frame", data := .dict #[] }) scope.names).objs.size := hz.lt
          rw [szC, z] at q
          exact absurd (Nat.lt_trans q hlt) (Nat.lt_irrefl _)
      · rw [List.mem_singleton.mp hp]
        exact Nat.ne_of_lt hlt
      · exact absurd (Nat.lt_trans (f3 b hb').2 h3b) (Nat.lt_irrefl _)
    have hS : SlOk (gCx X (gA Ac.in1 elt tg iter ifs scope pos it (gEnv X scope s3.heap.objs.size (cellsFrom (s3.heap.objs.size + 1) scope.names (cloFrom X.env.cells scope.names [])) (.ref c'))) s3 H3 (gEnv X scope s3.heap.objs.size (cellsFrom (s3.heap.objs.size + 1) scope.names (cloFrom X.env.cells scope.names [])) (.ref c')) fp [(h4.objs.size, go)]) (po.map (·.1)) := fun b hb => by
      obtain ⟨p, hp, e⟩ := List.mem_map.mp hb
      have q := (hpo p hp).1
      subst e
      exact apart p.1 q
    have seg := seg_gstart (A := Ac.in1) (s4 := s3) (H4 := H3) T hco (hg _ _ _ _ _ _ _ _ rm) (ht _ _ _ _ _ _ _ _ rm) (he _ _ _ _ _ _ _ _ rm) turn m0 [] H3 (s'.setGen s3.gens.size .running) po hS Ig
      (T.keep _ _ _ st3 fun b _ o e => o3 b o (kp6 b o e)) (fun b hb => (f3 b hb).1.1) (fun b hb p hp => by
        rw [List.mem_singleton.mp hp]
        exact Nat.ne_of_gt (Nat.lt_trans (f3 b hb).2 lt4)) w0
    have back : ∀ {po' : List (Addr × Obj)} {σ' : L2.St} {H' : Hp} {s'' : Shared}, Inv (gCx X (gA Ac.in1 elt tg iter ifs scope pos it (gEnv X scope s3.heap.objs.size (cellsFrom (s3.heap.objs.size + 1) scope.names (cloFrom X.env.cells scope.names [])) (.ref c'))) s3 H3 (gEnv X scope s3.heap.objs.size (cellsFrom (s3.heap.objs.size + 1) scope.names (cloFrom X.env.cells scope.names [])) (.ref c')) fp [(h4.objs.size, go)]) po' σ' H' s'' →
        Inv X pins σ H' s'' ∧ Pinned po' H' s'' ∧ s''.heap.IsGen h4.objs.size s3.gens.size := fun {po' σ' H' s''} J => by
      refine ⟨I3.call' (ch := fp) J.os J.base J.hok J.bare fun b hb => ⟨(f3 b hb).1.2.2.2.1, (f3 b hb).1.2.1, (f3 b hb).1.2.2.2.2.1, (f3 b hb).1.2.2.2.2.2⟩, fun p hp => ?_, ?_⟩
      · obtain ⟨q1, q2, _⟩ := J.pin p (List.mem_append_right _ hp)
        exact ⟨q1, q2⟩
      · exact isg (J.pin (h4.objs.size, go) (List.mem_append_left _ List.mem_cons_self)).1
    refine segG_imp (fun n x r s hr => ?_) (fun n x v s kk kk' hk hy => ?_) seg
    · obtain ⟨e, σ', H', J, hK⟩ := hr
      obtain ⟨j1, j2, j3⟩ := back J
      exact ⟨e, H', j1, j2, j3, hK⟩
    · obtain ⟨y, σ', H', rv, J, hc⟩ := hy
      obtain ⟨j1, j2, j3⟩ := back J
      exact ⟨y, H', rv, j1, j2, j3, hc.imp (fun z => z) fun z => ⟨z.1, fun s'' po' zs => hk _ _ (z.2 s'' po' zs)⟩⟩
  subst hgo
  refine key _ rfl (AllBare.push I3.bare rfl) rfl ?_
  exact Array.getElem?_push_size ..
end
end Gx
set_option Elab.async false
set_option linter.all false
set_option maxRecDepth 100000
set_option maxHeartbeats 2000000
namespace Gx
open PySem PySem.Spec PyProof.Rows L2 GenW

abbrev NoFin : List V → V → Hp → Prop := fun _ _ _ => False
abbrev GoLen : List V → V → Prop := fun ys _ => ys.length < sizeLine
section
variable {X : Cx} {pins : List (Addr × Obj)} {σ : L2.St} {a : Addr} {g : Nat} {K : List V → Hp → Prop}
/-- the list S is filled -/
theorem drainG {A : Around} {R : Result → Shared → Prop} {S : Addr} {res : Value} (hh : A.handled = none) (hd : A.depth < recursionLimit)
    (hend : ∀ s' acc c H ys, Inv X pins σ H s' → s'.heap.get? S = some (lstObj acc c) → H S = none → Vals ys acc.toList → K ys H → R (.ok (.ret res)) s') :
    ∀ (n : Nat) (ys : List V) (s : Shared) (acc : Array Value) (c : Nat), s.heap.get? S = some (lstObj acc c) → Vals ys acc.toList → GLive X pins σ a g A.in1 NoFin GoLen K n (ys, [(S, lstObj acc c)]) s →
      codeAny (model X.prog X.w) A (.builtin "list.extend.loop" ⟨[.ref S, .ref a, res], []⟩) R s := by
  intro n
  induction n using Nat.strongRecOn with
  | ind n ih =>
    intro ys s acc c hS hv L
    refine codeAny_builtin F.entry_extend_loop ?_
    rw [Around.under_plainId F.plain_extend_loop _]
    show wpAny _ A.in1 (pyNext (.ref a) >>= _) _ _ s
    refine wpAny_bind (live_next hh hd L (fun s' H I hp hK => ?_) fun m v y H s' hn rv I hp hc => ?_)
    · obtain ⟨h1, h2⟩ := hp (S, lstObj acc c) List.mem_cons_self
      exact wpAny_pure (hend s' acc c H ys I h1 h2 hv hK)
    · obtain ⟨h1, h2⟩ := hp (S, lstObj acc c) List.mem_cons_self
      rcases hc with hf | ⟨hgo, hc⟩
      · exact hf.elim
      · have hlen : acc.size = ys.length := by
          have e1 := hv.length
          have e2 : acc.toList.length = acc.size := by simp
          omega
        have hlt : ys.length < sizeLine := hgo
        show wpAny _ A.in1 (updateSeq S (·.push v) >>= _) _ _ _
        refine wpAny_bind ?_
        refine wpAny_updateSeq h1 rfl (wpAny_pure ⟨plainId_quiet F.plain_extend_loop _, ?_⟩) (by rw [hlen]; exact Nat.le_of_lt hlt) (by show (acc.push v).size ≤ sizeLine + 1; rw [Array.size_push, hlen]; omega)
        have z := Slept.push (s := s') (v := v) (G := s'.gens) h1 I.bare
        obtain ⟨z1, z2, z3, z4⟩ := z
        obtain ⟨c', e'⟩ := z4 acc c h1
        refine ih m (by omega) (ys ++ [y]) _ (acc.push v) c' e' ?_ (hc _ _ ⟨rfl, I.bare, fun b o hb e => z3 b o (fun q => hb (by rw [q]; exact List.mem_cons_self)) e, rfl, fun p hp' => ?_⟩ rfl)
        · rw [Array.toList_push]
          exact hv.append (.cons rv .nil)
        · rw [List.mem_singleton.mp hp']
          exact ⟨e', fun v q => by cases q⟩
end

section
variable {X : Cx} {pins : List (Addr × Obj)} {σ : L2.St} {K : List V → Hp → Prop} {k : Nat}
theorem collect_gen {A : Around} {u : Value} {s : Shared} {Q : List Value → Shared → Prop} {E : Value → Shared → Prop} (hr : Room (k + 2) A) (hfr : A.frames = some X.stack) (hM : GMd X pins σ k NoFin GoLen K u s)
    (hQ : ∀ us s' H ys, Inv X pins σ H s' → Vals ys us → K ys H → Q us s') : wpAny (model X.prog X.w) A (collect u) Q E s := by
  obtain ⟨a, g, n, H, rfl, hal, hg, I, wake⟩ := hM
  have hSI : s.heap.objs.size ≠ a := Nat.ne_of_gt hal
  have gty : ∀ {h : Heap}, (∀ b o, s.heap.get? b = some o → h.get? b = some o) → h.IsGen a g := fun {h} q => hg.keeps q
  unfold collect
  refine wpAny_bind (wpAny_runValue (codeAny_builtin F.entry_proto_collect ?_))
  rw [Around.under_plainId F.plain_proto_collect _]
  show wpAny _ A.in1 (newList [] >>= fun l => again (.builtin "list.__iadd__" ⟨[l, .ref a], []⟩)) _ _ s
  refine wpAny_bind (wpAny_newObj_type ?_ (by show 0 ≤ sizeLine; decide))
  refine wpAny_pure ⟨plainId_quiet F.plain_list_iadd _, codeAny_builtin F.entry_list_iadd ?_⟩
  rw [Around.under_plainId F.plain_list_iadd _]
  have k1 : ∀ b o, s.heap.get? b = some o → (s.heap.push { cls := .type "list", data := .seq ([] : List Value).toArray }).get? b = some o := fun b o e => Heap.get?_push_of_some _ e
  show wpAny _ A.in1 (Builtin.List.listExtendWith (.ref s.heap.objs.size) (.ref a) (.ref s.heap.objs.size)) _ _ _
  unfold Builtin.List.listExtendWith
  refine wpAny_bind (wpAny_typeOf (Heap.IsGen.typeIs (s := { s with heap := _ }) (gty k1)) ?_)
  have h1 : Builtin.List.listSameRef (.ref s.heap.objs.size) (.ref a) = false := by simp [Builtin.List.listSameRef, hSI]
  have h2 : (Value.type "generator" == Value.type "list") = false := by decide
  have h3 : (Value.type "generator" == Value.type "tuple") = false := by decide
  simp only [h1, h2, h3, Bool.or_false, Bool.false_eq_true, if_false]
  refine wpAny_bind (wpAny_pyIter_gen (s := { s with heap := _ }) (gty k1) ?_)
  refine wpAny_bind (wpAny_holding ?_)
  unfold Builtin.List.listLengthHint
  refine wpAny_bind (wpAny_specialOf (Heap.IsGen.typeIs (s := { s with heap := _ }) (gty k1)) F.gen_no_len ?_)
  show wpAny _ A.in1 (specialOf (Value.ref a) (Str.ofString "__length_hint__") >>= _) _ _ _
  refine wpAny_bind (wpAny_specialOf (Heap.IsGen.typeIs (s := { s with heap := _ }) (gty k1)) F.gen_no_hint ?_)
  refine wpAny_pure ?_
  show wpAny _ A.in1 (rule "list.extend.makes-room" >>= fun _ => Builtin.List.listTouch (.ref s.heap.objs.size) >>= fun _ =>
    again (.builtin "list.extend.loop" ⟨[.ref s.heap.objs.size, .ref a, .ref s.heap.objs.size], []⟩)) _ _ _
  refine wpAny_bind (wpAny_rule ?_)
  have hS1 : (s.heap.push { cls := .type "list", data := .seq ([] : List Value).toArray }).get? s.heap.objs.size = some { cls := .type "list", data := .seq ([] : List Value).toArray } := Heap.get?_push_size _ rfl
  refine wpAny_bind ?_
  show wpAny _ A.in1 (updateSeq s.heap.objs.size (·.push .none) >>= fun _ => updateSeq s.heap.objs.size (·.pop)) _ _ _
  refine wpAny_bind (wpAny_updateSeq hS1 rfl ?_)
  have hS2 := Heap.get?_update_self (Obj.mapSeq (·.push Value.none)) hS1 rfl
  refine wpAny_updateSeq (hz := by seq_fits) hS2 rfl ?_
  have hS3 := Heap.get?_update_self (Obj.mapSeq (·.pop)) hS2 rfl
  have up : ∀ (h : Heap) (f : Obj → Obj), (∀ b o, s.heap.get? b = some o → h.get? b = some o) → ∀ b o, s.heap.get? b = some o → (h.update s.heap.objs.size f).get? b = some o := fun h f q b o e =>
    (Heap.get?_update_other _ _ (Ne.symm (Nat.ne_of_lt (Heap.lt_size e)))).trans (q b o e)
  have k3 := up _ (Obj.mapSeq (·.pop)) (up _ (Obj.mapSeq (·.push Value.none)) k1)
  refine wpAny_pure ⟨plainId_quiet F.plain_extend_loop _, ?_⟩
  generalize ((s.heap.push { cls := .type "list", data := .seq ([] : List Value).toArray }).update s.heap.objs.size (Obj.mapSeq (·.push Value.none))).update s.heap.objs.size (Obj.mapSeq (·.pop)) = h3 at hS3 k3 ⊢
  have L := wake A.in1 { s with heap := h3 } [(s.heap.objs.size, lstObj #[] _)] hr.in1 hfr rfl rfl k3 (fun p hp => by
    rw [List.mem_singleton.mp hp]
    exact ⟨Nat.le_refl _, hS3, fun v q => by cases q⟩)
  refine drainG hr.hd hr.depth (fun s' acc c H' ys I' hS' _ hv hK => ?_) n [] _ #[] _ hS3 .nil L
  show wpAny _ A (load s.heap.objs.size >>= _) _ _ s'
  refine wpAny_bind (wpAny_load hS' ?_)
  exact wpAny_pure (hQ acc.toList s' H' ys I' hv hK)
end
end Gx
set_option Elab.async false
set_option linter.all false
set_option maxRecDepth 100000
set_option maxHeartbeats 2000000
namespace Gx
open PySem PySem.Spec PyProof.Rows L2 GenW
open AutoSeq1 (wpAny_loadPart')

section
variable {X : Cx} {pins : List (Addr × Obj)} {σ : L2.St} {K : List V → Hp → Prop} {k : Nat}
theorem GMd.type {u : Value} {s : Shared} {Fin Go} (h : GMd X pins σ k Fin Go K u s) : s.TypeIs u "generator" := by
  obtain ⟨a, g, n, H, rfl, _, hg, _⟩ := h
  exact hg.typeIs
theorem code_tuple_new_genX {A : Around} {u : Value} {s : Shared} {Q₁ : Value → Shared → Prop} {E : Value → Shared → Prop} (hr : Room (k + 3) A) (hfr : A.frames = some X.stack) (hM : GMd X pins σ k NoFin GoLen K u s)
    (h : ∀ us s' H ys, Inv X pins σ H s' → Vals ys us → us.length ≤ sizeLine → K ys H → Q₁ (.ref s'.heap.objs.size) { s' with heap := s'.heap.push { cls := .type "tuple", data := .seq us.toArray } }) (hK : ∀ ys H, K ys H → ys.length ≤ sizeLine) :
    codeAny (model X.prog X.w) A (.call (.builtin "tuple.__new__") ⟨[.type "tuple", u], []⟩) (wants Q₁ E) s := by
  refine codeAny_of_tree ?_
  show wpAny _ A.in1 (do checkBuiltinCall "tuple.__new__" ⟨[.type "tuple", u], []⟩; again (.builtin "tuple.__new__" ⟨[.type "tuple", u], []⟩)) _ _ s
  refine wpAny_bind (wpAny_of_eq (F.newCall_tuple_1 _) (wpAny_pure ⟨plainId_quiet F.plain_tuple_new _, codeAny_builtin F.entry_tuple_new ?_⟩))
  rw [Around.under_plainId F.plain_tuple_new _]
  have hsub := sub_tuple_self
  have hinit := init_tuple_lookup
  have hmh := madeHere_tuple
  have hTI := hM.type
  have hcg := fun (Q : List Value → Shared → Prop) (E : Value → Shared → Prop) hQ => collect_gen (A := A.in1) (Q := Q) (E := E) hr.in1 hfr hM hQ
  wp_walk using wpAny_typeOf hTI, hcg
  intro us s' H ys I hv hk
  have hl : us.length ≤ sizeLine := by rw [← hv.length]; exact hK _ _ hk
  show wpAny _ _ (Builtin.Tuple.tupleExact us.toArray >>= fun v => ret v) _ _ _
  unfold Builtin.Tuple.tupleExact
  refine wpAny_bind (wpAny_newObj_type ?_ (by show us.toArray.size ≤ sizeLine; simpa using hl))
  exact wpAny_pure (h us s' H ys I hv hl hk)

theorem call_tuple_genX {A : Around} {u : Value} {s : Shared} {Q : Value → Shared → Prop} {E : Value → Shared → Prop} (hr : Room (k + 4) A) (hfr : A.frames = some X.stack) (hM : GMd X pins σ k NoFin GoLen K u s)
    (h : ∀ us s' H ys, Inv X pins σ H s' → Vals ys us → us.length ≤ sizeLine → K ys H → Q (.ref s'.heap.objs.size) { s' with heap := s'.heap.push { cls := .type "tuple", data := .seq us.toArray } }) (hK : ∀ ys H, K ys H → ys.length ≤ sizeLine) :
    wpAny (model X.prog X.w) A (call (.type "tuple") [u]) Q E s := by
  refine callType_codes (Q₁ := fun obj s₁ => s₁.TypeIs obj "tuple" ∧ Q obj s₁) F.called_tuple (F.typeCall_tuple_1 _) F.entry_object_init
    (code_tuple_new_genX hr.in1 hfr hM (fun us s' H ys I hv hl hk => ⟨⟨_, Heap.get?_push_size _ rfl, rfl⟩, h us s' H ys I hv hl hk⟩) hK) fun obj s₁ h₁ => ?_
  exact ⟨h₁.1, F.args_object_init_2 obj _, object_init_meets F.called_tuple.init.lookup F.called_tuple.made (by decide) X.prog X.w A.in1 _ s₁ ⟨h₁.1, rfl, h₁.2⟩⟩
end

/-! ### an argument that is a generator expression -/
/-- e is a generator expression: its reading by what the consumer wants -/
abbrev TGm := (List V → V → Hp → Prop) → (List V → V → Prop) → (List V → Hp → Prop) → L2.St → Hp → Prop
structure PGm (X : Cx) (k : Nat) (e : Expr) (t : TGm) : Prop where
  run : ∀ (Fin : List V → V → Hp → Prop) (Go : List V → V → Prop) (K : List V → Hp → Prop) (pins : List (Addr × Obj)) (s : Shared) (σ : L2.St) (H : Hp), Inv X pins σ H s → t Fin Go K σ H →
    wpAny (model X.prog X.w) X.A (eval e X.env) (GMd X pins σ k Fin Go K) X.xe s
section
variable {X : Cx} {k : Nat} {e : Expr} {t : TGm} {p pos : Pos}
theorem pgm {elt tg iter : Expr} {ifs : List Expr} {scope : Scope} {gpos : Pos} {own : List (Str × Nat)} {wi : TI} {g : TG} {tt : TT} {te : Value → TE} (hr : Room (k + 2) X.A) (hN : X.N.Nodup) (hbm : BuiltM X.base X.mg) (hco : scope.isCoroutine = false) (ok : BlkOk X.N X.env.scope scope own)
    (h0 : scope.names.lookup (".0" : Str) = some NameKind.local) (hi : PI X tg iter wi)
    (hg : ∀ (A : Around) (s : Shared) (H : Hp) (C : Addr) (cl : List (Str × Addr)) (code : Value) (fp : List Addr) (go : List (Addr × Obj)), Room k A → PG (gCx X A s H (gEnv X scope C cl code) fp go) tg g)
    (ht : ∀ (A : Around) (s : Shared) (H : Hp) (C : Addr) (cl : List (Str × Addr)) (code : Value) (fp : List Addr) (go : List (Addr × Obj)), Room k A → PTs (gCx X A s H (gEnv X scope C cl code) fp go) ifs tt)
    (he : ∀ (A : Around) (s : Shared) (H : Hp) (C : Addr) (cl : List (Str × Addr)) (code : Value) (fp : List Addr) (go : List (Addr × Obj)), Room k A → PE (gCx X A s H (gEnv X scope C cl code) fp go) elt (te code))
    (hs : ∀ v, genFold iter X.env v = pure v := by intro _; rfl) : PGm X k (.GeneratorExp elt [⟨tg, iter, ifs, 0⟩] scope gpos) (fun Fin Go K => tGx X wi g tt te (own.map (·.2)) Fin Go K) :=
  ⟨fun Fin Go K pins s σ H I h => gen_make hr hN hbm hco ok h0 hi hg ht he hs I h⟩
/-- tuple(e) -/
def tTupG (t : TGm) : TE := fun σ H Q => t NoFin GoLen (fun ys H' => ys.length ≤ sizeLine ∧ ∀ p, H' p = none → Q (.ref p) (upd H' p (.tup ys))) σ H
theorem pe_tupleG (h : PGm X k e t) (hr : Room (k + 4) X.A) (hg : Gl X "tuple") (hm : X.mg "tuple" = none) (he : starEach [e] X.env = (false, eval e X.env) :: starEach [] X.env := by rfl) : PE X (.Call (.Name "tuple" p) [e] [] pos) (tTupG t) := by
  refine ⟨fun pins s σ H Q I hq => ?_⟩
  refine wpAny_Call_Name_kw (ld_blt (u := .type "tuple") I hg hm (by decide +kernel) ?_)
  refine PyProof.Rows.callWith_type1 ?_ he rfl
  rw [he]
  show wpAny _ _ (spliced ((false, eval e X.env) :: backTo pos (starEach [] X.env))) _ _ s
  refine Calls.spliced_cons (thn (h.run _ _ _ pins s σ H I hq) fun u s1 hM => ?_)
  refine Calls.spliced_nil ?_
  refine call_tuple_genX hr I.ok.frames hM (fun us s' H' ys I' hv hl hk => ?_) fun ys H' z => z.1
  obtain ⟨hz, q⟩ := hk
  refine ⟨.ref s'.heap.objs.size, upd H' s'.heap.objs.size (.tup ys), ?_, rfl, q _ (I'.hok.fresh (Nat.le_refl _))⟩
  exact I'.laid (t' := s'.toks) (fun b o e => Heap.get?_push_of_some _ e) (Nat.le_refl _) ⟨hz, us, hv, ⟨_, Heap.get?_push_size _ rfl, rfl, 0, rfl⟩⟩
end
end Gx
set_option Elab.async false
set_option linter.all false
set_option maxRecDepth 100000
set_option maxHeartbeats 2000000
namespace Gx
open PySem PySem.Spec PyProof.Rows L2 GenW

/-- collect(v) hands out the items ys -/
def Colls (X : Cx) (pins : List (Addr × Obj)) (σ : L2.St) (k : Nat) (Q : List V → Hp → Prop) (v : Value) (s1 : Shared) : Prop :=
  ∀ (A : Around) (E : Value → Shared → Prop), Room k A → A.frames = some X.stack → wpAny (model X.prog X.w) A (collect v) (fun us s2 => ∃ ys H', Inv X pins σ H' s2 ∧ Vals ys us ∧ ys.length ≤ sizeLine ∧ Q ys H') E s1
/-- an expression whose value is walked whole -/
structure PCo (X : Cx) (k : Nat) (e : Expr) (t : TA) : Prop where
  run : ∀ (pins : List (Addr × Obj)) (s : Shared) (σ : L2.St) (H : Hp) (Q : List V → Hp → Prop), Inv X pins σ H s → t σ H Q → wpAny (model X.prog X.w) X.A (eval e X.env) (Colls X pins σ k Q) X.xe s
section
variable {X : Cx} {k : Nat} {e : Expr} {p pos : Pos}
def tCoG (t : TGm) : TA := fun σ H Q => t NoFin GoLen (fun ys H' => ys.length ≤ sizeLine ∧ Q ys H') σ H
theorem pco_gen {t : TGm} (h : PGm X k e t) : PCo X (k + 2) e (tCoG t) :=
  ⟨fun pins s σ H Q I hq => thn (h.run _ _ _ pins s σ H I hq) fun u s1 hM A E hr hfr => collect_gen hr hfr hM fun us s' H' ys I' hv hk => ⟨ys, H', I', hv, hk.1, hk.2⟩⟩
/-- a list | a tuple -/
def tCoL (K : PySem.W.Frag) (te : TE) : TA := fun σ H Q => te σ H fun x H1 => ∃ a xs, x = .ref a ∧ SqL K H1 a xs ∧ Q xs H1
theorem pco_list {te : TE} (h : PE X e te) : PCo X k e (tCoL X.K te) :=
  ⟨fun pins s σ H Q I hq => thn (h.run pins s σ H _ I hq) fun u s1 ⟨x, H1, I1, r, a, xs, ex, hs, q⟩ A E hr hfr => by
    subst ex
    cases r
    obtain ⟨its, rv, hl, hz⟩ := I1.list hs
    refine collect_list hl.isList ?_ (by rw [← rv.length]; exact hz)
    refine ⟨xs, H1, I1.kept (t' := s1.toks) fun b o ee => ?_, rv, hz, q⟩
    rw [Heap.get?_update_ne _ _ _ _ (Nat.ne_of_lt (Heap.lt_size ee))]
    exact Heap.get?_push_of_some _ ee⟩

/-! ### sorted -/
theorem sorted_coll {A : Around} {v : Value} {s : Shared} {ltv : Value → Value → Bool} {P : List Value → Shared → Prop} {Q : Value → Shared → Prop} {E : Value → Shared → Prop} (O : SrtO.Swo ltv)
    (hc : wpAny (model X.prog X.w) A.in1 (collect v) (fun us s1 => us.length ≤ sizeLine ∧ P us s1) E s)
    (hS : ∀ us s1, P us s1 → 2 ≤ us.length → ∀ (h₁ : Heap) (a : Addr), h₁.get? a = some (seqObj "list" us.toArray 0) → (∀ b o, s1.heap.get? b = some o → b ≠ a ∧ h₁.get? b = some o) → SrtO.SortableO X.prog X.w A.in1.in1 { s1 with heap := h₁ } a us ltv)
    (h : ∀ us s1 out h2, P us s1 → us.length ≤ sizeLine → SrtO.Srtd ltv out → SrtO.Stb ltv out us → (∀ b o, s1.heap.get? b = some o → h2.get? b = some o) → (∃ e, h2.get? s1.heap.objs.size = some (seqObj "list" out.toArray e)) → Q (.ref s1.heap.objs.size) { s1 with heap := h2 }) :
    wpAny (model X.prog X.w) A (call (.builtin "sorted") [v]) Q E s := by
  refine Calls.call_function_entry kind_sorted plain_sorted entry_sorted (args_sorted1 _) ?_
  unfold Builtin.«sorted»
  refine wpAny_bind (m := checkCount "sorted" 1 1 _) (wpAny_pure ?_)
  refine wpAny_bind (wpAny_mono hc (fun us s1 ⟨hz, hP⟩ => ?_) fun _ _ z => z)
  refine wpAny_bind (wpAny_newList ?_ hz)
  have hoL : (s1.heap.push (seqObj "list" us.toArray 0)).get? s1.heap.objs.size = some (seqObj "list" us.toArray 0) := Heap.get?_push_size _ rfl
  have keep : ∀ b o, s1.heap.get? b = some o → b ≠ s1.heap.objs.size ∧ (s1.heap.push (seqObj "list" us.toArray 0)).get? b = some o := fun b o q => ⟨Nat.ne_of_lt (Heap.lt_size q), Heap.get?_push_of_some _ q⟩
  refine wpAny_bind (wpAny_holding (wpAny_call_entry slot_list_sort ⟨_, hoL, rfl⟩ entry_list_sort (SrtO.list_sort_ord O hoL hz (fun h2 => hS us s1 hP h2 _ _ hoL keep) fun out hs hb => ⟨_, rfl, ?_⟩) (args_list_sort _)))
  refine wpAny_pure ⟨_, rfl, h us s1 out _ hP hz hs hb (fun b o e => ?_) ?_⟩
  · rw [PyProof.Rows.sortedHeap_old (keep b o e).1 (by rw [Heap.size_push]; exact Nat.lt_succ_of_lt (Heap.lt_size e))]
    exact (keep b o e).2
  · exact PyProof.Rows.sortedHeap_at hoL
/-- sorted(e) of ints -/
def tSortI (t : TA) : TE := fun σ H Q => t σ H fun ys H' => ∃ ns : List Int, ys = ns.map V.int ∧ ∀ (ns' : List Int) (p : Addr), ns'.Perm ns → ns'.Pairwise (· ≤ ·) → H' p = none → Q (.ref p) (upd H' p (.lst (ns'.map V.int)))
theorem pe_sortedI {t : TA} (h : PCo X k e t) (hr : Room (k + 1) X.A) (hg : Gl X "sorted") (hm : X.mg "sorted" = none) (he : starEach [e] X.env = (false, eval e X.env) :: starEach [] X.env := by rfl) : PE X (.Call (.Name "sorted" p) [e] [] pos) (tSortI t) := by
  refine ⟨fun pins s σ H Q I hq => ?_⟩
  refine wpAny_Call_Name_kw (ld_blt (u := .builtin "sorted") I hg hm (by decide +kernel) ?_)
  refine PyProof.Rows.callWith_builtin1 ?_ he (by rfl)
  rw [he]
  show wpAny _ _ (spliced ((false, eval e X.env) :: backTo pos (starEach [] X.env))) _ _ s
  refine Calls.spliced_cons (thn (h.run pins s σ H _ I hq) fun u s1 hM => ?_)
  refine Calls.spliced_nil ?_
  refine sorted_coll (P := fun us s2 => ∃ H' ns, Inv X pins σ H' s2 ∧ IntsAre us ns ∧ ∀ (ns' : List Int) (p : Addr), ns'.Perm ns → ns'.Pairwise (· ≤ ·) → H' p = none → Q (.ref p) (upd H' p (.lst (ns'.map V.int)))) SrtO.swo_int
    (wpAny_mono (hM _ _ hr.in1 I.ok.frames) (fun us s2 ⟨ys, H', I', hv, hz, ns, e1, q⟩ => ?_) fun _ _ z => z) (fun us s2 ⟨H', ns, I', hi, q⟩ h2 h₁ a _ _ => SrtO.ints_sortable hi h2) (fun us s2 out hh ⟨H', ns, I', hi, q⟩ hz hs hb hk ho => ?_)
  · subst e1
    exact ⟨by rw [← hv.length]; exact hz, H', ns, I', hv.ints, q⟩
  · obtain ⟨k1, k2, k3⟩ := SrtO.ints_out hi hs hb
    obtain ⟨ee, he'⟩ := ho
    have hlen : ((out.map SrtO.iv).map V.int).length ≤ sizeLine := by
      rw [List.length_map, List.length_map, hb.perm.length_eq]
      exact hz
    exact ⟨.ref _, upd H' s2.heap.objs.size (.lst ((out.map SrtO.iv).map V.int)), I'.laid (t' := s2.toks) hk (Nat.le_refl _) ⟨hlen, out, ee, vals_of_ints k1, he'⟩, rfl, q _ _ k2 k3 (I'.hok.fresh (Nat.le_refl _))⟩
end
end Gx
set_option Elab.async false
set_option linter.all false
set_option maxRecDepth 100000
set_option maxHeartbeats 2000000
/-! R3: readings over a pure store: tuples are values, lists and dicts stand in a memory by number. -/
namespace R3
open PySem PySem.Spec PyProof.Rows L2 Gx

/-- a value (rol: a list that is read alone, the script) -/
inductive D where
  | non | bl (b : Bool) | int (i : Int) | str (x : Str) | tup (l : List D) | loc (n : Nat) | rol (l : List D)
/-- a thing that stands in the memory: a list, dicts (lk: walked at this time) -/
inductive Ob where
  | lst (l : List D) | dK (m : List (Key × D)) | dT (m : List (List Key × D)) | lkK (m : List (Key × D)) | lkT (m : List (List Key × D))
abbrev Mem := List Ob
abbrev Env3 := List (Option D)
abbrev Sg := L2.St

def TupAt (K : PySem.W.Frag) (H : Hp) (a : Addr) (xs : List V) : Prop :=
  H a = some (.tup xs) ∨ ∃ (o : Obj) (its : Array Value) (n : Nat), K.lookup a = some o ∧ o.cls = .type "tuple" ∧ o.data = .seq its n ∧ its.size ≤ sizeLine ∧ Vals xs its.toList
theorem TupAt.sq {K : PySem.W.Frag} {H : Hp} {a : Addr} {xs : List V} (h : TupAt K H a xs) : SqT K H a xs := h.imp (fun z => Or.inl z) fun z => z

/-- a list that is read alone -/
def RoAt (K : PySem.W.Frag) (H : Hp) (a : Addr) (vs : List V) : Prop := (∃ o, H a = some (.frz o (.lst vs))) ∨ ∀ H', SqL K H' a vs
theorem RoAt.sq {K : PySem.W.Frag} {H : Hp} {a : Addr} {vs : List V} (h : RoAt K H a vs) : SqL K H a vs := by
  rcases h with ⟨o, h⟩ | h
  · exact .inl (.inr ⟨o, h⟩)
  · exact h H
/-! ### what a value is in the heap -/
mutual
def Rp (K : PySem.W.Frag) (ρ : List Addr) (H : Hp) : D → V → Prop
  | .non, v => v = .non
  | .bl b, v => v = .bl b
  | .int i, v => v = .int i
  | .str x, v => v = .str x
  | .tup l, v => ∃ a vs, v = .ref a ∧ TupAt K H a vs ∧ Rps K ρ H l vs
  | .loc n, v => ∃ a, v = .ref a ∧ ρ[n]? = some a
  | .rol l, v => ∃ a vs, v = .ref a ∧ RoAt K H a vs ∧ Rps K ρ H l vs
def Rps (K : PySem.W.Frag) (ρ : List Addr) (H : Hp) : List D → List V → Prop
  | [], vs => vs = []
  | d :: ds, vs => ∃ v r, vs = v :: r ∧ Rp K ρ H d v ∧ Rps K ρ H ds r
end
def RpK {κ : Type} (K : PySem.W.Frag) (ρ : List Addr) (H : Hp) : List (κ × D) → List (κ × V) → Prop
  | [], vs => vs = []
  | (k, d) :: ds, vs => ∃ v r, vs = (k, v) :: r ∧ Rp K ρ H d v ∧ RpK K ρ H ds r
def RpO (K : PySem.W.Frag) (ρ : List Addr) (H : Hp) : Ob → Addr → Prop
  | .lst l, a => ∃ vs, H a = some (.lst vs) ∧ Rps K ρ H l vs
  | .dK m, a => ∃ kvs, H a = some (.dK kvs) ∧ RpK K ρ H m kvs
  | .dT m, a => ∃ kvs, H a = some (.dT kvs) ∧ RpK K ρ H m kvs
  | .lkK m, a => ∃ o kvs, H a = some (.frz o (.dK kvs)) ∧ RpK K ρ H m kvs
  | .lkT m, a => ∃ o kvs, H a = some (.frz o (.dT kvs)) ∧ RpK K ρ H m kvs

/-- what stays: locations, tuples, tables, code objects -/
structure Stp (ρ : List Addr) (H : Hp) (ρ' : List Addr) (H' : Hp) : Prop where
  pre : ρ <+: ρ'
  tup : ∀ a xs, H a = some (.tup xs) → H' a = some (.tup xs)
  tab : ∀ P, TabA H P → TabA H' P
  code : ∀ c a P, H c = some (codeH a P) → H' c = some (codeH a P)
  frz : ∀ a o u, H a = some (.frz o u) → H' a = some (.frz o u)
  oth0 : ∀ a o, H a = some o → a ∉ ρ → a ∉ ρ' ∧ (H' a = some o ∨ ∃ ps ps', o = .tbl ps ∧ H' a = some (.tbl ps'))
theorem Stp.frl {ρ ρ' : List Addr} {H H' : Hp} (s : Stp ρ H ρ' H') (a : Addr) (o : Obj) (xs : List V) (h : H a = some (.frz o (.lst xs))) : H' a = some (.frz o (.lst xs)) := s.frz a o _ h
theorem Stp.oth {ρ ρ' : List Addr} {H H' : Hp} (s : Stp ρ H ρ' H') (a : Addr) (o : HO) (h : H a = some o) (n : a ∉ ρ) (q : ∀ ps, o ≠ .tbl ps) : H' a = some o ∧ a ∉ ρ' := by
  obtain ⟨h1, h2⟩ := s.oth0 a o h n
  rcases h2 with h2 | ⟨ps, ps', e, _⟩
  · exact ⟨h2, h1⟩
  · exact (q ps e).elim
theorem Stp.was0 {ρ ρ' : List Addr} {H H' : Hp} (s : Stp ρ H ρ' H') {a : Addr} (n : a ∉ ρ) (h : H' a = none) : H a = none := by
  cases e : H a with
  | none => rfl
  | some o =>
    rcases (s.oth0 a o e n).2 with h2 | ⟨ps, ps', _, h2⟩
    · rw [h] at h2; cases h2
    · rw [h] at h2; cases h2
theorem Stp.refl (ρ : List Addr) (H : Hp) : Stp ρ H ρ H := ⟨List.prefix_refl _, fun _ _ h => h, fun _ h => h, fun _ _ _ h => h, fun _ _ _ h => h, fun _ _ h n => ⟨n, .inl h⟩⟩
theorem Stp.trans {ρ ρ1 ρ2 : List Addr} {H H1 H2 : Hp} (a : Stp ρ H ρ1 H1) (b : Stp ρ1 H1 ρ2 H2) : Stp ρ H ρ2 H2 :=
  ⟨a.pre.trans b.pre, fun x y h => b.tup x y (a.tup x y h), fun P h => b.tab P (a.tab P h), fun c x P h => b.code c x P (a.code c x P h), fun x o xs h => b.frz x o xs (a.frz x o xs h), fun x o h n => by
    obtain ⟨n1, h1⟩ := a.oth0 x o h n
    rcases h1 with h1 | ⟨ps, ps', e, h1⟩
    · exact b.oth0 x o h1 n1
    · obtain ⟨n2, h2⟩ := b.oth0 x _ h1 n1
      rcases h2 with h2 | ⟨_, qs, _, h2⟩
      · exact ⟨n2, .inr ⟨ps, ps', e, h2⟩⟩
      · exact ⟨n2, .inr ⟨ps, qs, e, h2⟩⟩⟩
/-- all that was tracked stands -/
def Ext3 (H H' : Hp) : Prop := ∀ b o, H b = some o → H' b = some o
theorem Ext3.refl (H : Hp) : Ext3 H H := fun _ _ h => h
theorem Ext3.trans {H H1 H2 : Hp} (a : Ext3 H H1) (b : Ext3 H1 H2) : Ext3 H H2 := fun x y h => b x y (a x y h)
theorem Ext3.new {H : Hp} {p : Addr} {o : HO} (h : H p = none) : Ext3 H (upd H p o) := fun b x e => by
  rw [upd_ne (ne_of_none e h)]
  exact e
theorem Ext3.stp {ρ : List Addr} {H H' : Hp} (e : Ext3 H H') : Stp ρ H ρ H' := ⟨List.prefix_refl _, fun a xs h => e a _ h, (ExtT.of e).tabs, fun c a P h => e c _ h, fun a o xs h => e a _ h, fun a o h n => ⟨n, .inl (e a _ h)⟩⟩

theorem pre_get {ρ ρ' : List Addr} (h : ρ <+: ρ') {n : Nat} {a : Addr} (e : ρ[n]? = some a) : ρ'[n]? = some a := by
  obtain ⟨t, rfl⟩ := h
  rw [List.getElem?_append_left (List.getElem?_eq_some_iff.mp e).1]
  exact e
section
variable {K : PySem.W.Frag} {ρ ρ' : List Addr} {H H' : Hp}
theorem RoAt.mono (h : ∀ a o xs, H a = some (.frz o (.lst xs)) → H' a = some (.frz o (.lst xs))) {a : Addr} {xs : List V} (t : RoAt K H a xs) : RoAt K H' a xs := t.imp (fun ⟨o, z⟩ => ⟨o, h _ _ _ z⟩) fun z => z
theorem TupAt.mono (h : ∀ a xs, H a = some (.tup xs) → H' a = some (.tup xs)) {a : Addr} {xs : List V} (t : TupAt K H a xs) : TupAt K H' a xs := t.imp (fun z => h _ _ z) fun z => z
mutual
theorem Rp.mono (hp : ρ <+: ρ') (ht : ∀ a xs, H a = some (.tup xs) → H' a = some (.tup xs)) (hf : ∀ a o xs, H a = some (.frz o (.lst xs)) → H' a = some (.frz o (.lst xs))) : ∀ (d : D) (v : V), Rp K ρ H d v → Rp K ρ' H' d v
  | .non, v, h => h
  | .bl b, v, h => h
  | .int i, v, h => h
  | .str x, v, h => h
  | .tup l, v, h => by
    obtain ⟨a, vs, e, t, r⟩ := h
    exact ⟨a, vs, e, t.mono ht, Rps.mono hp ht hf l vs r⟩
  | .loc n, v, h => by
    obtain ⟨a, e, q⟩ := h
    exact ⟨a, e, pre_get hp q⟩
  | .rol l, v, h => by
    obtain ⟨a, vs, e, t, r⟩ := h
    exact ⟨a, vs, e, t.mono hf, Rps.mono hp ht hf l vs r⟩
theorem Rps.mono (hp : ρ <+: ρ') (ht : ∀ a xs, H a = some (.tup xs) → H' a = some (.tup xs)) (hf : ∀ a o xs, H a = some (.frz o (.lst xs)) → H' a = some (.frz o (.lst xs))) : ∀ (ds : List D) (vs : List V), Rps K ρ H ds vs → Rps K ρ' H' ds vs
  | [], vs, h => h
  | d :: ds, vs, h => by
    obtain ⟨v, r, e, h1, h2⟩ := h
    exact ⟨v, r, e, Rp.mono hp ht hf d v h1, Rps.mono hp ht hf ds r h2⟩
end
theorem RpK.mono {κ : Type} (hp : ρ <+: ρ') (ht : ∀ a xs, H a = some (.tup xs) → H' a = some (.tup xs)) (hf : ∀ a o xs, H a = some (.frz o (.lst xs)) → H' a = some (.frz o (.lst xs))) : ∀ (m : List (κ × D)) (vs : List (κ × V)), RpK K ρ H m vs → RpK K ρ' H' m vs
  | [], vs, h => h
  | (k, d) :: ds, vs, h => by
    obtain ⟨v, r, e, h1, h2⟩ := h
    exact ⟨v, r, e, Rp.mono hp ht hf d v h1, RpK.mono hp ht hf ds r h2⟩
theorem Rp.stp (s : Stp ρ H ρ' H') {d : D} {v : V} (h : Rp K ρ H d v) : Rp K ρ' H' d v := Rp.mono s.pre s.tup s.frl d v h
theorem Rps.stp (s : Stp ρ H ρ' H') {d : List D} {v : List V} (h : Rps K ρ H d v) : Rps K ρ' H' d v := Rps.mono s.pre s.tup s.frl d v h
theorem RpK.stp {κ : Type} (s : Stp ρ H ρ' H') {d : List (κ × D)} {v : List (κ × V)} (h : RpK K ρ H d v) : RpK K ρ' H' d v := RpK.mono s.pre s.tup s.frl d v h
theorem Rps.length : ∀ {ds : List D} {vs : List V}, Rps K ρ H ds vs → vs.length = ds.length
  | [], vs, h => by rw [show vs = [] from h]; rfl
  | d :: ds, vs, h => by
    obtain ⟨v, r, e, _, h2⟩ := h
    rw [e, List.length_cons, List.length_cons, Rps.length h2]
theorem Rps.get : ∀ {ds : List D} {vs : List V} {i : Nat} {d : D}, Rps K ρ H ds vs → ds[i]? = some d → ∃ v, vs[i]? = some v ∧ Rp K ρ H d v
  | [], vs, i, d, _, e => by simp at e
  | x :: ds, vs, 0, d, h, e => by
    obtain ⟨v, r, e1, h1, h2⟩ := h
    have e : x = d := Option.some.inj e
    subst e e1
    exact ⟨v, rfl, h1⟩
  | x :: ds, vs, i + 1, d, h, e => by
    obtain ⟨v, r, e1, h1, h2⟩ := h
    subst e1
    exact Rps.get (i := i) h2 e
theorem Rps.get' {ds : List D} {vs : List V} {i : Nat} {v : V} (h : Rps K ρ H ds vs) (e : vs[i]? = some v) : ∃ d, ds[i]? = some d ∧ Rp K ρ H d v := by
  have hl := h.length
  have hi : i < ds.length := by rw [← hl]; exact (List.getElem?_eq_some_iff.mp e).1
  obtain ⟨u, h1, h2⟩ := h.get (List.getElem?_eq_getElem hi)
  rw [e] at h1
  cases h1
  exact ⟨_, List.getElem?_eq_getElem hi, h2⟩
theorem Rps.append : ∀ {ds es : List D} {vs us : List V}, Rps K ρ H ds vs → Rps K ρ H es us → Rps K ρ H (ds ++ es) (vs ++ us)
  | [], es, vs, us, h, g => by
    rw [show vs = [] from h]
    exact g
  | d :: ds, es, vs, us, h, g => by
    obtain ⟨v, r, e, h1, h2⟩ := h
    subst e
    exact ⟨v, r ++ us, rfl, h1, Rps.append h2 g⟩
theorem Rps.one {d : D} {v : V} (h : Rp K ρ H d v) : Rps K ρ H [d] [v] := ⟨v, [], rfl, h, rfl⟩
theorem Rps.set : ∀ {ds : List D} {vs : List V} {d : D} {v : V} (i : Nat), Rps K ρ H ds vs → Rp K ρ H d v → Rps K ρ H (ds.set i d) (vs.set i v)
  | [], vs, d, v, i, h, _ => by
    rw [show vs = [] from h]
    exact rfl
  | x :: ds, vs, d, v, 0, h, g => by
    obtain ⟨y, r, e, h1, h2⟩ := h
    subst e
    exact ⟨v, r, rfl, g, h2⟩
  | x :: ds, vs, d, v, i + 1, h, g => by
    obtain ⟨y, r, e, h1, h2⟩ := h
    subst e
    exact ⟨y, r.set i v, rfl, h1, Rps.set i h2 g⟩
theorem Rps.take : ∀ {ds : List D} {vs : List V} (i : Nat), Rps K ρ H ds vs → Rps K ρ H (ds.take i) (vs.take i)
  | ds, vs, 0, h => by
    rw [List.take_zero, List.take_zero]
    rfl
  | [], vs, i + 1, h => by
    rw [show vs = [] from h]
    rfl
  | x :: ds, vs, i + 1, h => by
    obtain ⟨y, r, e, h1, h2⟩ := h
    subst e
    exact ⟨y, r.take i, rfl, h1, Rps.take i h2⟩
theorem Rps.drop : ∀ {ds : List D} {vs : List V} (i : Nat), Rps K ρ H ds vs → Rps K ρ H (ds.drop i) (vs.drop i)
  | ds, vs, 0, h => h
  | [], vs, i + 1, h => by
    rw [show vs = [] from h]
    rfl
  | x :: ds, vs, i + 1, h => by
    obtain ⟨y, r, e, h1, h2⟩ := h
    subst e
    exact Rps.drop i h2
theorem Rps.reverse : ∀ {ds : List D} {vs : List V}, Rps K ρ H ds vs → Rps K ρ H ds.reverse vs.reverse
  | [], vs, h => by
    rw [show vs = [] from h]
    rfl
  | x :: ds, vs, h => by
    obtain ⟨y, r, e, h1, h2⟩ := h
    subst e
    rw [List.reverse_cons, List.reverse_cons]
    exact (Rps.reverse h2).append (Rps.one h1)
theorem Rps.ints : ∀ {ns : List Int} {vs : List V}, Rps K ρ H (ns.map D.int) vs → vs = ns.map V.int
  | [], vs, h => h
  | n :: ns, vs, h => by
    obtain ⟨v, r, e, h1, h2⟩ := h
    rw [e, show v = .int n from h1, Rps.ints h2]
    rfl
theorem Rps.of_ints : ∀ (ns : List Int), Rps K ρ H (ns.map D.int) (ns.map V.int)
  | [] => rfl
  | n :: ns => ⟨_, _, rfl, rfl, Rps.of_ints ns⟩
end

/-! ### the memory -/
structure RelM (K : PySem.W.Frag) (T : List Addr) (ρ : List Addr) (H : Hp) (M : Mem) : Prop where
  nd : ρ.Nodup
  len : ρ.length = M.length
  obs : ∀ (n : Nat) (ob : Ob) (a : Addr), M[n]? = some ob → ρ[n]? = some a → RpO K ρ H ob a
  tabs : ∀ P ∈ T, TabA H P
/-- the names' values -/
structure RelE (K : PySem.W.Frag) (ρ : List Addr) (H : Hp) (σ : Sg) (env : Env3) : Prop where
  len : σ.length = env.length
  at_ : ∀ (i : Nat) (d : D), env[i]? = some (some d) → ∃ v, σ[i]? = some (some v) ∧ Rp K ρ H d v
/-- the code object that runs is known (b: it is asked) -/
def CodeOk (X : Cx) (b : Bool) (H : Hp) : Prop := b = true → ∃ c P, CodeT X c P H
structure RelS (X : Cx) (T : List Addr) (b : Bool) (ρ : List Addr) (σ : Sg) (H : Hp) (env : Env3) (M : Mem) : Prop where
  m : RelM X.K T ρ H M
  e : RelE X.K ρ H σ env
  c : CodeOk X b H
section
variable {X : Cx} {T : List Addr} {b : Bool} {ρ ρ' : List Addr} {σ σ' : Sg} {H H' : Hp} {env env' : Env3} {M M' : Mem}
theorem RelE.stp {K : PySem.W.Frag} (s : Stp ρ H ρ' H') (r : RelE K ρ H σ env) : RelE K ρ' H' σ env := ⟨r.len, fun i d e => let ⟨v, h1, h2⟩ := r.at_ i d e; ⟨v, h1, h2.stp s⟩⟩
theorem CodeOk.stp (s : Stp ρ H ρ' H') (r : CodeOk X b H) : CodeOk X b H' := fun hb => by
  obtain ⟨c, P, h1, h2, h3⟩ := r hb
  exact ⟨c, P, h1, h2.imp (fun z => z) fun z => s.code _ _ _ z, s.tab P h3⟩
theorem RpO.ext {K : PySem.W.Frag} (e : Ext3 H H') {ob : Ob} {a : Addr} (r : RpO K ρ H ob a) : RpO K ρ H' ob a := by
  have s : Stp ρ H ρ H' := e.stp
  cases ob with
  | lst l => obtain ⟨vs, h1, h2⟩ := r; exact ⟨vs, e _ _ h1, h2.stp s⟩
  | dK m => obtain ⟨vs, h1, h2⟩ := r; exact ⟨vs, e _ _ h1, h2.stp s⟩
  | dT m => obtain ⟨vs, h1, h2⟩ := r; exact ⟨vs, e _ _ h1, h2.stp s⟩
  | lkK m => obtain ⟨o, vs, h1, h2⟩ := r; exact ⟨o, vs, e _ _ h1, h2.stp s⟩
  | lkT m => obtain ⟨o, vs, h1, h2⟩ := r; exact ⟨o, vs, e _ _ h1, h2.stp s⟩
end
end R3
set_option Elab.async false
set_option linter.all false
set_option maxRecDepth 100000
set_option maxHeartbeats 2000000
namespace R3
open PySem PySem.Spec PyProof.Rows L2 Gx

/-! ### readings over the pure store -/
abbrev WE := Env3 → Mem → (D → Mem → Prop) → Prop
abbrev WT := Env3 → Mem → (Bool → Mem → Prop) → Prop
abbrev WA := Env3 → Mem → (List D → Mem → Prop) → Prop
structure Ends3 where
  nx : Env3 → Mem → Prop
  rt : D → Mem → Prop
  bk : Env3 → Mem → Prop := fun _ _ => False
  ct : Env3 → Mem → Prop := fun _ _ => False
abbrev WS := Ends3 → Env3 → Mem → Prop
section
variable (X : Cx) (T : List Addr) (b : Bool)
/-- what follows, told of the heap -/
def Post (ρ : List Addr) (σ : Sg) (H : Hp) (env : Env3) (R : D → Mem → Prop) (Q : VK) : Prop := ∀ d M' v H' ρ', R d M' → RelS X T b ρ' σ H' env M' → Stp ρ H ρ' H' → Rp X.K ρ' H' d v → Q v H'
def PostA (ρ : List Addr) (σ : Sg) (H : Hp) (env : Env3) (R : List D → Mem → Prop) (Q : List V → Hp → Prop) : Prop := ∀ ds M' vs H' ρ', R ds M' → RelS X T b ρ' σ H' env M' → Stp ρ H ρ' H' → Rps X.K ρ' H' ds vs → Q vs H'
def PostT (ρ : List Addr) (σ : Sg) (H : Hp) (env : Env3) (R : Bool → Mem → Prop) (Q : Bool → Hp → Prop) : Prop := ∀ c M' H' ρ', R c M' → RelS X T b ρ' σ H' env M' → Stp ρ H ρ' H' → Q c H'
def lift (w : WE) : TE := fun σ H Q => ∃ ρ env M R, RelS X T b ρ σ H env M ∧ w env M R ∧ Post X T b ρ σ H env R Q
def liftA (w : WA) : TA := fun σ H Q => ∃ ρ env M R, RelS X T b ρ σ H env M ∧ w env M R ∧ PostA X T b ρ σ H env R Q
def liftT (w : WT) : TT := fun σ H Q => ∃ ρ env M R, RelS X T b ρ σ H env M ∧ w env M R ∧ PostT X T b ρ σ H env R Q
structure EndsOk (ρ : List Addr) (H : Hp) (E : Ends3) (D' : Ends) : Prop where
  nx : ∀ env' M' σ' H' ρ', E.nx env' M' → RelS X T b ρ' σ' H' env' M' → Stp ρ H ρ' H' → D'.nx σ' H'
  rt : ∀ d M' v H' ρ', E.rt d M' → RelM X.K T ρ' H' M' → Stp ρ H ρ' H' → Rp X.K ρ' H' d v → D'.rt v H'
  bk : ∀ env' M' σ' H' ρ', E.bk env' M' → RelS X T b ρ' σ' H' env' M' → Stp ρ H ρ' H' → D'.bk σ' H'
  ct : ∀ env' M' σ' H' ρ', E.ct env' M' → RelS X T b ρ' σ' H' env' M' → Stp ρ H ρ' H' → D'.ct σ' H'
def liftS (w : WS) : TS := fun D' σ H => ∃ ρ env M E, RelS X T b ρ σ H env M ∧ w E env M ∧ EndsOk X T b ρ H E D'
structure QE (e : Expr) (w : WE) : Prop where
  pe : PE X e (lift X T b w)
structure QA (es : List Expr) (w : WA) : Prop where
  pa : PA X es (liftA X T b w)
structure QT (e : Expr) (w : WT) : Prop where
  pt : PT X e (liftT X T b w)
structure QW (e : Expr) (w : WT) : Prop where
  pw : PW X e (liftT X T b w)
structure QS (st : Stmt) (w : WS) : Prop where
  ps : PS X st (liftS X T b w)
structure QB (st : List Stmt) (w : WS) : Prop where
  pss : PSs X st (liftS X T b w)
end
section
variable {X : Cx} {T : List Addr} {b : Bool}
theorem PE.weak {e : Expr} {t t' : TE} (h : PE X e t) (k : ∀ σ H Q, t' σ H Q → t σ H Q) : PE X e t' := ⟨fun pins s σ H Q I q => h.run pins s σ H Q I (k _ _ _ q)⟩
theorem PT.weak {e : Expr} {t t' : TT} (h : PT X e t) (k : ∀ σ H Q, t' σ H Q → t σ H Q) : PT X e t' := ⟨fun pins s σ H Q I q => h.run pins s σ H Q I (k _ _ _ q)⟩
theorem PW.weak {e : Expr} {t t' : TT} (h : PW X e t) (k : ∀ σ H Q, t' σ H Q → t σ H Q) : PW X e t' := ⟨fun whole pins s σ H Q I q => h.run whole pins s σ H Q I (k _ _ _ q)⟩
theorem PA.weak {e : List Expr} {t t' : TA} (h : PA X e t) (k : ∀ σ H Q, t' σ H Q → t σ H Q) : PA X e t' := ⟨fun pos pins s σ H Q I q => h.run pos pins s σ H Q I (k _ _ _ q)⟩
theorem PS.weak {e : Stmt} {t t' : TS} (h : PS X e t) (k : ∀ D σ H, t' D σ H → t D σ H) : PS X e t' := ⟨fun pins s σ H D I q => h.run pins s σ H D I (k _ _ _ q)⟩
theorem PSs.weak {e : List Stmt} {t t' : TS} (h : PSs X e t) (k : ∀ D σ H, t' D σ H → t D σ H) : PSs X e t' := ⟨fun pins s σ H D I q => h.run pins s σ H D I (k _ _ _ q)⟩

variable {ρ ρ' : List Addr} {σ : Sg} {H H' : Hp} {env : Env3} {M : Mem}
/-! the state moves on -/
theorem RelM.ext {K : PySem.W.Frag} (e : Ext3 H H') (r : RelM K T ρ H M) : RelM K T ρ H' M := ⟨r.nd, r.len, fun n ob a h1 h2 => (r.obs n ob a h1 h2).ext e, fun P hP => (e.stp (ρ := ρ)).tab P (r.tabs P hP)⟩
theorem RelS.ext (e : Ext3 H H') (r : RelS X T b ρ σ H env M) : RelS X T b ρ σ H' env M := ⟨r.m.ext e, r.e.stp e.stp, r.c.stp (e.stp (ρ := ρ))⟩
theorem Post.then {R R' : D → Mem → Prop} {Q : VK} {ρ' : List Addr} {H' : Hp} (p : Post X T b ρ σ H env R Q) (s : Stp ρ H ρ' H') : Post X T b ρ' σ H' env R Q := fun d M' v H2 ρ2 h1 h2 h3 h4 => p d M' v H2 ρ2 h1 h2 (s.trans h3) h4
theorem PostA.then {R : List D → Mem → Prop} {Q : List V → Hp → Prop} (p : PostA X T b ρ σ H env R Q) (s : Stp ρ H ρ' H') : PostA X T b ρ' σ H' env R Q := fun d M' v H2 ρ2 h1 h2 h3 h4 => p d M' v H2 ρ2 h1 h2 (s.trans h3) h4
theorem PostT.then {R : Bool → Mem → Prop} {Q : Bool → Hp → Prop} (p : PostT X T b ρ σ H env R Q) (s : Stp ρ H ρ' H') : PostT X T b ρ' σ H' env R Q := fun d M' H2 ρ2 h1 h2 h3 => p d M' H2 ρ2 h1 h2 (s.trans h3)
theorem EndsOk.then {E : Ends3} {D' : Ends} (p : EndsOk X T b ρ H E D') (s : Stp ρ H ρ' H') : EndsOk X T b ρ' H' E D' :=
  ⟨fun a c d e f h1 h2 h3 => p.nx a c d e f h1 h2 (s.trans h3), fun a c d e f h1 h2 h3 h4 => p.rt a c d e f h1 h2 (s.trans h3) h4, fun a c d e f h1 h2 h3 => p.bk a c d e f h1 h2 (s.trans h3), fun a c d e f h1 h2 h3 => p.ct a c d e f h1 h2 (s.trans h3)⟩
/-- a lifted reading, from the state at hand -/
theorem lift_go {w : WE} {R : D → Mem → Prop} {Q : VK} (r : RelS X T b ρ σ H env M) (h : w env M R) (p : Post X T b ρ σ H env R Q) : lift X T b w σ H Q := ⟨ρ, env, M, R, r, h, p⟩
theorem liftA_go {w : WA} {R : List D → Mem → Prop} {Q : List V → Hp → Prop} (r : RelS X T b ρ σ H env M) (h : w env M R) (p : PostA X T b ρ σ H env R Q) : liftA X T b w σ H Q := ⟨ρ, env, M, R, r, h, p⟩
theorem liftT_go {w : WT} {R : Bool → Mem → Prop} {Q : Bool → Hp → Prop} (r : RelS X T b ρ σ H env M) (h : w env M R) (p : PostT X T b ρ σ H env R Q) : liftT X T b w σ H Q := ⟨ρ, env, M, R, r, h, p⟩
theorem liftS_go {w : WS} {E : Ends3} {D' : Ends} (r : RelS X T b ρ σ H env M) (h : w E env M) (p : EndsOk X T b ρ H E D') : liftS X T b w D' σ H := ⟨ρ, env, M, E, r, h, p⟩

/-! ### names, constants -/
def wVar (i : Nat) : WE := fun env M R => match env[i]? with
  | some (some d) => R d M
  | _ => False
def wC (d : D) : WE := fun _ M R => R d M
theorem q_var (i : Nat) {x : Str} {pos : Pos} (hN : X.N[i]? = some x := by rfl) (hv : Vis X.env.scope x := by first | exact Or.inl rfl | exact Or.inr (Or.inl rfl) | exact Or.inr (Or.inr rfl)) (hd : (x == ("__debug__" : Str)) = false := by decide)
    (hcd : (x == ("__classdict__" : Str)) = false := by decide) : QE X T b (.Name x pos) (wVar i) := ⟨PE.weak (pe_var hN hv hd hcd) fun σ H Q ⟨ρ, env, M, R, r, h, p⟩ => by
  unfold wVar at h
  split at h
  · rename_i d e
    obtain ⟨v, h1, h2⟩ := r.e.at_ i d e
    exact ⟨v, h1, p d M v H ρ h r (Stp.refl _ _) h2⟩
  · exact h.elim⟩
theorem q_const {e : Expr} {v : V} {d : D} (h : PE X e (tC v)) (hr : ∀ ρ H, Rp X.K ρ H d v) : QE X T b e (wC d) := ⟨PE.weak h fun σ H Q ⟨ρ, env, M, R, r, h, p⟩ => p d M v H ρ h r (Stp.refl _ _) (hr ρ H)⟩
theorem q_int {i j pos} : QE X T b (.Constant (.int i) j pos) (wC (.int i)) := q_const pe_int fun _ _ => rfl
theorem q_bl {i j pos} : QE X T b (.Constant (.bool i) j pos) (wC (.bl i)) := q_const pe_bl fun _ _ => rfl
theorem q_non {j pos} : QE X T b (.Constant .none j pos) (wC .non) := q_const pe_non fun _ _ => rfl
theorem q_str {x j pos} : QE X T b (.Constant (.str x) j pos) (wC (.str x)) := q_const pe_str fun _ _ => rfl
/-- a module's constant -/
def GlobC (K : PySem.W.Frag) (mg : Str → Option Value) (x : Str) (d : D) : Prop := ∃ u v, mg x = some u ∧ RelV v u ∧ ∀ ρ H, Rp K ρ H d v
theorem q_glob {x : Str} {d : D} {pos : Pos} (hg : Gl X x) (h : GlobC X.K X.mg x d) (hd : (x == ("__debug__" : Str)) = false := by decide) : QE X T b (.Name x pos) (wC d) := by
  obtain ⟨u, v, h1, h2, h3⟩ := h
  exact q_const (pe_glob hg h1 h2 hd) h3

/-! ### operators -/
abbrev RO := D → D → Mem → (D → Mem → Prop) → Prop
/-- an operator's rule agrees with its reading -/
def OpC (X : Cx) (T : List Addr) (b : Bool) (r : R2) (o : RO) : Prop := ∀ ρ σ H env M d1 d2 v1 v2 R Q, RelS X T b ρ σ H env M → Rp X.K ρ H d1 v1 → Rp X.K ρ H d2 v2 → o d1 d2 M R → Post X T b ρ σ H env R Q → r v1 v2 H Q
def wBin (o : RO) (wa wb : WE) : WE := fun env M R => wa env M fun x M1 => wb env M1 fun y M2 => o x y M2 R
theorem lift_bin {o : RO} {r : R2} {wa wb : WE} (h : OpC X T b r o) {Q : VK} (q : lift X T b (wBin o wa wb) σ H Q) : lift X T b wa σ H fun x H1 => lift X T b wb σ H1 fun y H2 => r x y H2 Q := by
  obtain ⟨ρ, env, M, R, rs, hw, p⟩ := q
  refine lift_go rs hw fun d1 M1 v1 H1 ρ1 h1 r1 s1 p1 => ?_
  refine lift_go r1 h1 fun d2 M2 v2 H2 ρ2 h2 r2 s2 p2 => ?_
  exact h ρ2 σ H2 env M2 d1 d2 v1 v2 R Q r2 (p1.stp s2) p2 h2 (p.then (R' := R) (s1.trans s2))
theorem q_op {op : Operator} {a c : Expr} {r : R2} {o : RO} {wa wb : WE} {pos : Pos} (ho : OpR X (binaryOp op) r) (h : OpC X T b r o) (ha : QE X T b a wa) (hc : QE X T b c wb) : QE X T b (.BinOp a op c pos) (wBin o wa wb) :=
  ⟨PE.weak (pe_op ho ha.pe hc.pe) fun σ H Q q => lift_bin h q⟩
theorem q_cmp {op : CmpOp} {a c : Expr} {r : R2} {o : RO} {wa wb : WE} {pos : Pos} (ho : OpR X (compareOp op) r) (h : OpC X T b r o) (ha : QE X T b a wa) (hc : QE X T b c wb) (hm : behindInMarks op c = false := by first | exact nomark _ | rfl) : QE X T b (.Compare a [op] [c] pos) (wBin o wa wb) :=
  ⟨PE.weak (pe_cmpR ho ha.pe hc.pe hm) fun σ H Q q => lift_bin h q⟩
theorem q_ix {a c : Expr} {r : R2} {o : RO} {wa wb : WE} {pos : Pos} (ho : IxR X r) (h : OpC X T b r o) (ha : QE X T b a wa) (hc : QE X T b c wb) (hs : PlainIx c := by exact fun _ _ => rfl) : QE X T b (.Subscript a c pos) (wBin o wa wb) :=
  ⟨PE.weak (pe_ix ho ha.pe hc.pe hs) fun σ H Q q => lift_bin h q⟩
/-- a value as a test -/
def wTst (w : WE) : WT := fun env M R => w env M fun d M1 => match d with
  | .bl c => R c M1
  | _ => False
theorem q_tst {e : Expr} {w : WE} (h : QE X T b e w) (he : ∀ whole, isTrue e X.env whole = (do let v ← whole; standAt e.pos; holding [v] (truthy v)) := by intro _; rfl) : QT X T b e (wTst w) :=
  ⟨PT.weak (pt_val h.pe he) fun σ H Q ⟨ρ, env, M, R, rs, hw, p⟩ => by
    refine lift_go rs hw fun d M1 v H1 ρ1 h1 r1 s1 p1 => ?_
    split at h1
    · rename_i c
      exact ⟨c, p1, p c M1 H1 ρ1 h1 r1 s1⟩
    · exact h1.elim⟩
theorem q_cmpT {op : CmpOp} {a c : Expr} {r : R2} {o : RO} {wa wb : WE} {pos : Pos} (ho : OpR X (compareOp op) r) (h : OpC X T b r o) (ha : QE X T b a wa) (hc : QE X T b c wb) (hm : behindInMarks op c = false := by first | exact nomark _ | rfl) : QT X T b (.Compare a [op] [c] pos) (wTst (wBin o wa wb)) :=
  ⟨PT.weak (pt_cmpR ho ha.pe hc.pe hm) fun σ H Q ⟨ρ, env, M, R, rs, hw, p⟩ => by
    refine lift_bin (Q := fun x H1 => ∃ k, x = .bl k ∧ Q k H1) h (lift_go rs hw fun d M1 v H1 ρ1 h1 r1 s1 p1 => ?_)
    split at h1
    · rename_i c
      exact ⟨c, p1, p c M1 H1 ρ1 h1 r1 s1⟩
    · exact h1.elim⟩
def wNotT (w : WT) : WT := fun env M R => w env M fun c M1 => R (!c) M1
theorem q_notT {e : Expr} {w : WT} {pos : Pos} (h : QT X T b e w) : QT X T b (.UnaryOp .Not e pos) (wNotT w) :=
  ⟨PT.weak (pt_not h.pt) fun σ H Q ⟨ρ, env, M, R, rs, hw, p⟩ => liftT_go rs hw fun c M1 H1 ρ1 h1 r1 s1 => p _ M1 H1 ρ1 h1 r1 s1⟩
def wAndT (w u : WT) : WT := fun env M R => w env M fun c M1 => if c = true then u env M1 R else R false M1
def wOrT (w u : WT) : WT := fun env M R => w env M fun c M1 => if c = true then R true M1 else u env M1 R
theorem q_and1 {e : Expr} {w : WT} {pos : Pos} (h : QT X T b e w) : QW X T b (.BoolOp .And [e] pos) w := ⟨pw_and1 h.pt⟩
theorem q_or1 {e : Expr} {w : WT} {pos : Pos} (h : QT X T b e w) : QW X T b (.BoolOp .Or [e] pos) w := ⟨pw_or1 h.pt⟩
theorem q_andW {a c : Expr} {rest : List Expr} {w u : WT} {pos : Pos} (h : QT X T b a w) (h2 : QW X T b (.BoolOp .And (c :: rest) pos) u) : QW X T b (.BoolOp .And (a :: c :: rest) pos) (wAndT w u) :=
  ⟨PW.weak (pw_and h.pt h2.pw) fun σ H Q ⟨ρ, env, M, R, rs, hw, p⟩ => liftT_go rs hw fun k M1 H1 ρ1 h1 r1 s1 => by
    cases k with
    | true => exact liftT_go r1 h1 (p.then s1)
    | false => exact p _ M1 H1 ρ1 h1 r1 s1⟩
theorem q_orW {a c : Expr} {rest : List Expr} {w u : WT} {pos : Pos} (h : QT X T b a w) (h2 : QW X T b (.BoolOp .Or (c :: rest) pos) u) : QW X T b (.BoolOp .Or (a :: c :: rest) pos) (wOrT w u) :=
  ⟨PW.weak (pw_or h.pt h2.pw) fun σ H Q ⟨ρ, env, M, R, rs, hw, p⟩ => liftT_go rs hw fun k M1 H1 ρ1 h1 r1 s1 => by
    cases k with
    | true => exact p _ M1 H1 ρ1 h1 r1 s1
    | false => exact liftT_go r1 h1 (p.then s1)⟩
theorem q_wt {e : Expr} {w : WT} (h : QW X T b e w) : QT X T b e w := ⟨h.pw.pt⟩
/-- a if t else c -/
def wIf (t : WT) (wa wb : WE) : WE := fun env M R => t env M fun c M1 => if c = true then wa env M1 R else wb env M1 R
theorem q_ifE {t a c : Expr} {wt : WT} {wa wb : WE} {pos : Pos} (ht : QT X T b t wt) (ha : QE X T b a wa) (hb : QE X T b c wb) : QE X T b (.IfExp t a c pos) (wIf wt wa wb) :=
  ⟨PE.weak (pe_ifExp ht.pt ha.pe hb.pe) fun σ H Q ⟨ρ, env, M, R, rs, hw, p⟩ => liftT_go rs hw fun k M1 H1 ρ1 h1 r1 s1 => by
    cases k with
    | true => exact lift_go r1 h1 (p.then (R' := R) s1)
    | false => exact lift_go r1 h1 (p.then (R' := R) s1)⟩

/-! ### argument lists -/
def wNil : WA := fun _ M R => R [] M
def wCons (w : WE) (r : WA) : WA := fun env M R => w env M fun d M1 => r env M1 fun ds M2 => R (d :: ds) M2
theorem q_nil : QA X T b [] wNil := ⟨PA.weak pa_nil fun σ H Q ⟨ρ, env, M, R, rs, hw, p⟩ => p [] M [] H ρ hw rs (Stp.refl _ _) rfl⟩
theorem q_cons {e : Expr} {es : List Expr} {w : WE} {r : WA} (h : QE X T b e w) (hr : QA X T b es r) (hs : starEach (e :: es) X.env = (false, eval e X.env) :: starEach es X.env := by rfl) : QA X T b (e :: es) (wCons w r) :=
  ⟨PA.weak (pa_cons h.pe hr.pa hs) fun σ H Q ⟨ρ, env, M, R, rs, hw, p⟩ => lift_go rs hw fun d M1 v H1 ρ1 h1 r1 s1 p1 => liftA_go r1 h1 fun ds M2 vs H2 ρ2 h2 r2 s2 p2 => p (d :: ds) M2 (v :: vs) H2 ρ2 h2 r2 (s1.trans s2) ⟨v, vs, rfl, p1.stp s2, p2⟩⟩
/-- (a, c, ..) -/
def wTup (w : WA) : WE := fun env M R => w env M fun ds M1 => ds.length ≤ sizeLine ∧ R (.tup ds) M1
theorem q_tup {es : List Expr} {x1} {w : WA} {pos : Pos} (h : QA X T b es w) : QE X T b (.Tuple es x1 pos) (wTup w) :=
  ⟨PE.weak (pe_tup h.pa) fun σ H Q ⟨ρ, env, M, R, rs, hw, p⟩ => liftA_go rs hw fun ds M1 vs H1 ρ1 h1 r1 s1 p1 => by
    obtain ⟨hz, h1⟩ := h1
    refine ⟨by rw [p1.length]; exact hz, fun a ha => ?_⟩
    have e : Ext3 H1 (upd H1 a (.tup vs)) := Ext3.new ha
    exact p _ M1 _ _ ρ1 h1 (r1.ext e) (s1.trans e.stp) ⟨a, vs, rfl, .inl upd_same, p1.stp e.stp⟩⟩

/-! ### statements -/
def wNext : WS := fun E env M => E.nx env M
def wSeq (t u : WS) : WS := fun E env M => t { E with nx := u E } env M
theorem q_bnil : QB X T b [] wNext := ⟨PSs.weak pss_nil fun D' σ H ⟨ρ, env, M, E, rs, hw, p⟩ => p.nx env M σ H ρ hw rs (Stp.refl _ _)⟩
theorem lift_seq {w u : WS} {D' : Ends} (q : liftS X T b (wSeq w u) D' σ H) : tSeq (liftS X T b w) (liftS X T b u) D' σ H := by
  obtain ⟨ρ, env, M, E, rs, hw, p⟩ := q
  exact liftS_go rs hw ⟨fun env' M' σ' H' ρ' h1 h2 h3 => liftS_go h2 h1 (p.then h3), p.rt, p.bk, p.ct⟩
theorem q_bcons {st : Stmt} {rest : List Stmt} {w u : WS} (h : QS X T b st w) (hr : QB X T b rest u) : QB X T b (st :: rest) (wSeq w u) := ⟨PSs.weak (pss_cons h.ps hr.pss) fun D' σ H q => lift_seq q⟩
theorem q_bone {st : Stmt} {w : WS} (h : QS X T b st w) : QB X T b [st] w := ⟨pss_one h.ps⟩
def wPass : WS := wNext
def wBrk : WS := fun E env M => E.bk env M
def wCnt : WS := fun E env M => E.ct env M
theorem q_pass {pos} : QS X T b (.Pass pos) wNext := ⟨PS.weak ps_pass fun D' σ H ⟨ρ, env, M, E, rs, hw, p⟩ => p.nx env M σ H ρ hw rs (Stp.refl _ _)⟩
theorem q_brk {pos} : QS X T b (.Break pos) wBrk := ⟨PS.weak ps_break fun D' σ H ⟨ρ, env, M, E, rs, hw, p⟩ => p.bk env M σ H ρ hw rs (Stp.refl _ _)⟩
theorem q_cnt {pos} : QS X T b (.Continue pos) wCnt := ⟨PS.weak ps_continue fun D' σ H ⟨ρ, env, M, E, rs, hw, p⟩ => p.ct env M σ H ρ hw rs (Stp.refl _ _)⟩
def wRet (w : WE) : WS := fun E env M => w env M E.rt
theorem q_ret {e : Expr} {w : WE} {pos : Pos} (h : QE X T b e w) : QS X T b (.Return (some e) pos) (wRet w) :=
  ⟨PS.weak (ps_ret h.pe) fun D' σ H ⟨ρ, env, M, E, rs, hw, p⟩ => lift_go rs hw fun d M1 v H1 ρ1 h1 r1 s1 p1 => p.rt d M1 v H1 ρ1 h1 r1.m s1 p1⟩
def wRetN : WS := fun E _ M => E.rt .non M
theorem q_retN {pos : Pos} : QS X T b (.Return none pos) wRetN :=
  ⟨PS.weak ps_retN fun D' σ H ⟨ρ, env, M, E, rs, hw, p⟩ => p.rt .non M .non H ρ hw rs.m (Stp.refl _ _) rfl⟩
def wIfS (t : WT) (w u : WS) : WS := fun E env M => t env M fun c M1 => if c = true then w E env M1 else u E env M1
theorem q_if {c : Expr} {ss us : List Stmt} {t : WT} {w u : WS} {pos : Pos} (ht : QT X T b c t) (h1 : QB X T b ss w) (h2 : QB X T b us u) : QS X T b (.If c ss us pos) (wIfS t w u) :=
  ⟨PS.weak (ps_if ht.pt h1.pss h2.pss) fun D' σ H ⟨ρ, env, M, E, rs, hw, p⟩ => liftT_go rs hw fun k M1 H1 ρ1 h1 r1 s1 => by
    cases k with
    | true => exact liftS_go r1 h1 (p.then s1)
    | false => exact liftS_go r1 h1 (p.then s1)⟩
def wDrop (w : WE) : WS := fun E env M => w env M fun _ M1 => E.nx env M1
theorem q_expr {e : Expr} {w : WE} {pos : Pos} (h : QE X T b e w) (hs : swapsWith e none pos.line X.env = pure false := by rfl) : QS X T b (.Expr e pos) (wDrop w) :=
  ⟨PS.weak (ps_expr h.pe hs) fun D' σ H ⟨ρ, env, M, E, rs, hw, p⟩ => lift_go rs hw fun d M1 v H1 ρ1 h1 r1 s1 p1 => p.nx env M1 σ H1 ρ1 h1 r1 s1⟩

/-! ### targets -/
abbrev WG := D → Env3 → Mem → (Env3 → Mem → Prop) → Prop
abbrev WGs := List D → Env3 → Mem → (Env3 → Mem → Prop) → Prop
/-- only the slots vs may have changed -/
def Keep (vs : List Nat) (σ σ' : Sg) : Prop := σ'.length = σ.length ∧ ∀ j, j ∉ vs → σ'[j]? = σ[j]?
theorem Keep.refl (vs : List Nat) (σ : Sg) : Keep vs σ σ := ⟨rfl, fun _ _ => rfl⟩
theorem Keep.set (i : Nat) (σ : Sg) (v : Option V) : Keep [i] σ (σ.set i v) := ⟨List.length_set, fun j hj => List.getElem?_set_ne fun z => hj (by rw [z]; exact List.mem_cons_self)⟩
theorem Keep.trans {vs us : List Nat} {σ σ1 σ2 : Sg} (a : Keep vs σ σ1) (c : Keep us σ1 σ2) : Keep (vs ++ us) σ σ2 :=
  ⟨c.1.trans a.1, fun j hj => (c.2 j fun z => hj (List.mem_append_right _ z)).trans (a.2 j fun z => hj (List.mem_append_left _ z))⟩
section
variable (X : Cx) (T : List Addr) (b : Bool) (vs : List Nat)
def PostG (ρ : List Addr) (σ : Sg) (H : Hp) (R : Env3 → Mem → Prop) (Q : Sg → Hp → Prop) : Prop := ∀ env' M' σ' H' ρ', R env' M' → RelS X T b ρ' σ' H' env' M' → Stp ρ H ρ' H' → Keep vs σ σ' → Q σ' H'
def liftG (w : WG) : TG := fun v σ H Q => ∃ ρ env M R d, RelS X T b ρ σ H env M ∧ Rp X.K ρ H d v ∧ w d env M R ∧ PostG X T b vs ρ σ H R Q
def liftGs (w : WGs) : TGs := fun us σ H Q => ∃ ρ env M R ds, RelS X T b ρ σ H env M ∧ Rps X.K ρ H ds us ∧ w ds env M R ∧ PostG X T b vs ρ σ H R Q
structure QG (e : Expr) (w : WG) : Prop where
  pg : PG X e (liftG X T b vs w)
structure QGs (e : List Expr) (w : WGs) : Prop where
  pgs : PGs X e (liftGs X T b vs w)
end
theorem PG.weak {e : Expr} {t t' : TG} (h : PG X e t) (k : ∀ v σ H Q, t' v σ H Q → t v σ H Q) : PG X e t' := ⟨fun pins s σ H v u Q I r q => h.run pins s σ H v u Q I r (k _ _ _ _ q)⟩
theorem PGs.weak {e : List Expr} {t t' : TGs} (h : PGs X e t) (k : ∀ v σ H Q, t' v σ H Q → t v σ H Q) : PGs X e t' := ⟨fun pins s σ H v u Q I r q => h.run pins s σ H v u Q I r (k _ _ _ _ q)⟩
theorem RelE.set {K : PySem.W.Frag} {d : D} {v : V} (i : Nat) (r : RelE K ρ H σ env) (h : Rp K ρ H d v) : RelE K ρ H (σ.set i (some v)) (env.set i (some d)) := by
  refine ⟨by rw [List.length_set, List.length_set]; exact r.len, fun j d' e => ?_⟩
  by_cases hj : i = j
  · subst hj
    by_cases hi : i < env.length
    · rw [List.getElem?_set_self hi] at e
      cases e
      exact ⟨v, List.getElem?_set_self (by rw [r.len]; exact hi), h⟩
    · rw [List.getElem?_eq_none (by simpa using hi)] at e
      cases e
  · rw [List.getElem?_set_ne hj] at e ⊢
    exact r.at_ j d' e
theorem RelS.set {d : D} {v : V} (i : Nat) (r : RelS X T b ρ σ H env M) (h : Rp X.K ρ H d v) : RelS X T b ρ (σ.set i (some v)) H (env.set i (some d)) M := ⟨r.m, r.e.set i h, r.c⟩
def wGn (i : Nat) : WG := fun d env M R => R (env.set i (some d)) M
theorem q_gname {i : Nat} {x : Str} {pos : Pos} (hN : X.N.Nodup) (hi : X.N[i]? = some x) (hx : Loc X.env.scope x) (hf : X.fn x = true ∨ X.env.scope.names.lookup x = some .local := by first | exact .inl rfl | exact .inr rfl | assumption) : QG X T b [i] (.Name x pos) (wGn i) :=
  ⟨PG.weak (pg_name hN hi hx hf) fun v σ H Q ⟨ρ, env, M, R, d, rs, rp, hw, p⟩ => p _ M _ H ρ hw (rs.set i rp) (Stp.refl _ _) (Keep.set i σ _)⟩
def wGnil : WGs := fun ds env M R => ds = [] ∧ R env M
def wGcons (w : WG) (u : WGs) : WGs := fun ds env M R => match ds with
  | d :: r => w d env M fun env1 M1 => u r env1 M1 R
  | [] => False
theorem q_gnil : QGs X T b [] [] wGnil := ⟨PGs.weak pgs_nil fun v σ H Q ⟨ρ, env, M, R, ds, rs, rp, hw, p⟩ => by
  obtain ⟨e, hw⟩ := hw
  subst e
  exact ⟨rp, p _ _ _ _ ρ hw rs (Stp.refl _ _) (Keep.refl _ _)⟩⟩
theorem q_gcons {vs us : List Nat} {e : Expr} {es : List Expr} {w : WG} {u : WGs} (h : QG X T b vs e w) (hr : QGs X T b us es u) (hs : (assignEach (e :: es) X.env).map (·.2) = assign e X.env :: (assignEach es X.env).map (·.2) := by rfl) : QGs X T b (vs ++ us) (e :: es) (wGcons w u) := ⟨PGs.weak (pgs_cons h.pg hr.pgs hs) fun vals σ H Q ⟨ρ, env, M, R, ds, rs, rp, hw, p⟩ => by
  match ds, rp, hw with
  | d :: r, rp, hw =>
    obtain ⟨v, vr, e, r1, r2⟩ := rp
    exact ⟨v, vr, e, ρ, env, M, _, d, rs, r1, hw, fun env1 M1 σ1 H1 ρ1 h1 rs1 s1 k1 => ⟨ρ1, env1, M1, R, r, rs1, r2.stp s1, h1, fun a c d e f h2 r2 s2 k2 => p a c d e f h2 r2 (s1.trans s2) (k1.trans k2)⟩⟩⟩
def wGtup (n : Nat) (u : WGs) : WG := fun d env M R => match d with
  | .tup l => l.length = n ∧ u l env M R
  | _ => False
theorem q_gtup {vs : List Nat} {es : List Expr} {k n : Nat} {u : WGs} {pos : Pos} (hc : X.calm = true) (h : QGs X T b vs es u) (hn : (assignEach es X.env).length = n := by rfl) (hst : (assignEach es X.env).findIdx? (·.1) = none := by rfl) : QG X T b vs (.Tuple es k pos) (wGtup n u) := ⟨PG.weak (pg_tup (n := n) hc h.pgs hn hst) fun v σ H Q ⟨ρ, env, M, R, d, rs, rp, hw, p⟩ => by
  cases d with
  | tup l =>
    obtain ⟨a, vs, e, t, r⟩ := rp
    exact ⟨a, vs, e, t.sq, r.length.trans hw.1, ρ, env, M, R, l, rs, r, hw.2, p⟩
  | _ => exact hw.elim⟩
def wAsg (w : WE) (g : WG) : WS := fun E env M => w env M fun d M1 => g d env M1 E.nx
theorem lift_asg {vs : List Nat} {w : WE} {g : WG} {D' : Ends} (q : liftS X T b (wAsg w g) D' σ H) : tAsg (lift X T b w) (liftG X T b vs g) D' σ H := by
  obtain ⟨ρ, env, M, E, rs, hw, p⟩ := q
  exact lift_go rs hw fun d M1 v H1 ρ1 h1 r1 s1 p1 => ⟨ρ1, env, M1, E.nx, d, r1, p1, h1, fun env' M' σ' H' ρ' h2 r2 s2 _ => p.nx env' M' σ' H' ρ' h2 r2 (s1.trans s2)⟩

theorem q_asg {vs : List Nat} {tg e : Expr} {w : WE} {g : WG} {pos : Pos} (h : QE X T b e w) (hg : QG X T b vs tg g) (hs : swapsWithSole [tg] e pos.line X.env = pure false := by rfl) (hw : swappedStores [tg] e X.env = pure none := by rfl)
    (h1 : (assignEach [tg] X.env).map (·.2) = [assign tg X.env] := by rfl) : QS X T b (.Assign [tg] e pos) (wAsg w g) := ⟨PS.weak (ps_asg h.pe hg.pg hs hw h1) fun D' σ H q => lift_asg q⟩
theorem q_set {i : Nat} {x : Str} {e : Expr} {w : WE} {pos pos' : Pos} (hN : X.N.Nodup) (hi : X.N[i]? = some x) (hx : Loc X.env.scope x) (h : QE X T b e w) (hs : swapsWith e (some (.Name x pos')) pos.line X.env = pure false := by rfl) (hf : X.fn x = true ∨ X.env.scope.names.lookup x = some .local := by first | exact .inl rfl | exact .inr rfl | assumption) :
    QS X T b (.Assign [.Name x pos'] e pos) (wAsg w (wGn i)) := ⟨PS.weak (ps_set hN hi hx h.pe hs hf) fun D' σ H ⟨ρ, env, M, E, rs, hw, p⟩ => lift_go rs hw fun d M1 v H1 ρ1 h1 r1 s1 p1 => p.nx _ M1 _ H1 ρ1 h1 (r1.set i p1) s1⟩
def wPar (i j : Nat) (w : WA) : WS := fun E env M => w env M fun ds M1 => match ds with
  | [d, d'] => E.nx ((env.set i (some d)).set j (some d')) M1
  | _ => False
theorem q_par {i j : Nat} {x y : Str} {a c : Expr} {w : WA} {px py pt : Pos} {kt k2 pt2} {pos : Pos} (hc : X.calm = true) (hN : X.N.Nodup) (hi : X.N[i]? = some x) (hj : X.N[j]? = some y) (hij : i ≠ j)
    (hx : X.env.scope.names.lookup x = some .local) (hy : X.env.scope.names.lookup y = some .local) (ha : QA X T b [a, c] w)
    (hw : swappedStores [.Tuple [.Name x px, .Name y py] kt pt] (.Tuple [a, c] k2 pt2) X.env = pure (some [x, y]))
    (hs : swapsWithSole [.Tuple [.Name x px, .Name y py] kt pt] (.Tuple [a, c] k2 pt2) pos.line X.env = pure false := by rfl) : QS X T b (.Assign [.Tuple [.Name x px, .Name y py] kt pt] (.Tuple [a, c] k2 pt2) pos) (wPar i j w) :=
  ⟨PS.weak (ps_par hc hN hi hj hij hx hy ha.pa hw hs) fun D' σ H ⟨ρ, env, M, E, rs, hw, p⟩ => liftA_go rs hw fun ds M1 vs H1 ρ1 h1 r1 s1 p1 => by
    match ds, p1, h1 with
    | [d, d'], p1, h1 =>
      obtain ⟨v, r, e, q1, q2⟩ := p1
      obtain ⟨v', r', e', q1', q2'⟩ := q2
      have q2' : r' = [] := q2'
      subst e e' q2'
      exact ⟨v, v', rfl, p.nx _ M1 _ H1 ρ1 h1 ((r1.set i q1).set j q1') s1⟩⟩
end
end R3
set_option Elab.async false
set_option linter.all false
set_option maxRecDepth 100000
set_option maxHeartbeats 2000000
namespace R3
open PySem PySem.Spec PyProof.Rows L2 Gx

/-! ### locations renumbered -/
mutual
/-- d's locations, told by the list ix of old numbers -/
def D.ren (ix : List Nat) : D → D
  | .tup l => .tup (D.rens ix l)
  | .loc n => .loc (ix.getD n 0)
  | .rol l => .rol (D.rens ix l)
  | .non => .non
  | .bl c => .bl c
  | .int i => .int i
  | .str x => .str x
def D.rens (ix : List Nat) : List D → List D
  | [] => []
  | d :: ds => d.ren ix :: D.rens ix ds
end
mutual
/-- all locations lie below n -/
def D.wf (n : Nat) : D → Prop
  | .tup l => D.wfs n l
  | .loc m => m < n
  | .rol l => D.wfs n l
  | .non => True
  | .bl _ => True
  | .int _ => True
  | .str _ => True
def D.wfs (n : Nat) : List D → Prop
  | [] => True
  | d :: ds => d.wf n ∧ D.wfs n ds
end
def D.renK {κ : Type} (ix : List Nat) (m : List (κ × D)) : List (κ × D) := m.map fun p => (p.1, p.2.ren ix)
def D.wfK {κ : Type} (n : Nat) (m : List (κ × D)) : Prop := ∀ p ∈ m, p.2.wf n
def Ob.ren (ix : List Nat) : Ob → Ob
  | .lst l => .lst (D.rens ix l)
  | .dK m => .dK (D.renK ix m)
  | .dT m => .dT (D.renK ix m)
  | .lkK m => .lkK (D.renK ix m)
  | .lkT m => .lkT (D.renK ix m)
def Ob.wf (n : Nat) : Ob → Prop
  | .lst l => D.wfs n l
  | .dK m => D.wfK n m
  | .dT m => D.wfK n m
  | .lkK m => D.wfK n m
  | .lkT m => D.wfK n m
def wfM (n : Nat) (M : Mem) : Prop := ∀ ob ∈ M, ob.wf n
/-- behind a call: of M' the caller keeps the first n things and what d'' speaks of; in M'', d'' the old numbers are told anew -/
def Shr (n : Nat) (M' : Mem) (d : D) (M'' : Mem) (d'' : D) : Prop := ∃ ix : List Nat, ix.Nodup ∧ (∀ i, i < n → ix[i]? = some i) ∧ M''.length = ix.length ∧
  (∀ (i j : Nat) (ob : Ob), ix[i]? = some j → M''[i]? = some ob → M'[j]? = some (ob.ren ix)) ∧ (∀ j ∈ ix, j < M'.length) ∧ d = d''.ren ix ∧ d''.wf ix.length ∧ wfM ix.length M''
section
variable {K : PySem.W.Frag} {ρ ρ' : List Addr} {H : Hp} {ix : List Nat}
theorem ren_loc {a : Addr} {n : Nat} (hr : ∀ i j : Nat, ix[i]? = some j → ρ'[i]? = ρ[j]?) (hn : n < ix.length) (h : ρ[ix.getD n 0]? = some a) : ρ'[n]? = some a := by
  rw [hr n (ix.getD n 0) (by rw [List.getD_eq_getElem?_getD, List.getElem?_eq_getElem hn]; rfl)]
  exact h
mutual
theorem Rp.ren (hr : ∀ i j : Nat, ix[i]? = some j → ρ'[i]? = ρ[j]?) : ∀ (d : D) (v : V), d.wf ix.length → Rp K ρ H (d.ren ix) v → Rp K ρ' H d v
  | .non, v, _, h => h
  | .bl b, v, _, h => h
  | .int i, v, _, h => h
  | .str x, v, _, h => h
  | .tup l, v, w, h => by
    obtain ⟨a, vs, e, t, r⟩ := h
    exact ⟨a, vs, e, t, Rps.ren hr l vs w r⟩
  | .loc n, v, w, h => by
    obtain ⟨a, e, q⟩ := h
    exact ⟨a, e, ren_loc hr w q⟩
  | .rol l, v, w, h => by
    obtain ⟨a, vs, e, t, r⟩ := h
    exact ⟨a, vs, e, t, Rps.ren hr l vs w r⟩
theorem Rps.ren (hr : ∀ i j : Nat, ix[i]? = some j → ρ'[i]? = ρ[j]?) : ∀ (ds : List D) (vs : List V), D.wfs ix.length ds → Rps K ρ H (D.rens ix ds) vs → Rps K ρ' H ds vs
  | [], vs, _, h => h
  | d :: ds, vs, w, h => by
    obtain ⟨v, r, e, h1, h2⟩ := h
    exact ⟨v, r, e, Rp.ren hr d v w.1 h1, Rps.ren hr ds r w.2 h2⟩
end
theorem RpK.ren {κ : Type} (hr : ∀ i j : Nat, ix[i]? = some j → ρ'[i]? = ρ[j]?) : ∀ (m : List (κ × D)) (vs : List (κ × V)), D.wfK ix.length m → RpK K ρ H (D.renK ix m) vs → RpK K ρ' H m vs
  | [], vs, _, h => h
  | (k, d) :: ds, vs, w, h => by
    obtain ⟨v, r, e, h1, h2⟩ := h
    exact ⟨v, r, e, Rp.ren hr d v (w _ List.mem_cons_self) h1, RpK.ren hr ds r (fun p hp => w p (List.mem_cons_of_mem _ hp)) h2⟩
theorem RpO.ren (hr : ∀ i j : Nat, ix[i]? = some j → ρ'[i]? = ρ[j]?) (ob : Ob) (a : Addr) (w : ob.wf ix.length) (h : RpO K ρ H (ob.ren ix) a) : RpO K ρ' H ob a := by
  cases ob with
  | lst l => obtain ⟨vs, h1, h2⟩ := h; exact ⟨vs, h1, Rps.ren hr _ _ w h2⟩
  | dK m => obtain ⟨vs, h1, h2⟩ := h; exact ⟨vs, h1, RpK.ren hr _ _ w h2⟩
  | dT m => obtain ⟨vs, h1, h2⟩ := h; exact ⟨vs, h1, RpK.ren hr _ _ w h2⟩
  | lkK m => obtain ⟨o, vs, h1, h2⟩ := h; exact ⟨o, vs, h1, RpK.ren hr _ _ w h2⟩
  | lkT m => obtain ⟨o, vs, h1, h2⟩ := h; exact ⟨o, vs, h1, RpK.ren hr _ _ w h2⟩
mutual
theorem Rp.wf : ∀ (d : D) (v : V), Rp K ρ H d v → d.wf ρ.length
  | .non, v, _ => trivial
  | .bl b, v, _ => trivial
  | .int i, v, _ => trivial
  | .str x, v, _ => trivial
  | .tup l, v, h => by
    obtain ⟨a, vs, e, t, r⟩ := h
    exact Rps.wf l vs r
  | .loc n, v, h => by
    obtain ⟨a, e, q⟩ := h
    exact (List.getElem?_eq_some_iff.mp q).1
  | .rol l, v, h => by
    obtain ⟨a, vs, e, t, r⟩ := h
    exact Rps.wf l vs r
theorem Rps.wf : ∀ (ds : List D) (vs : List V), Rps K ρ H ds vs → D.wfs ρ.length ds
  | [], vs, _ => trivial
  | d :: ds, vs, h => by
    obtain ⟨v, r, e, h1, h2⟩ := h
    exact ⟨Rp.wf d v h1, Rps.wf ds r h2⟩
end
theorem RpK.wf {κ : Type} : ∀ (m : List (κ × D)) (vs : List (κ × V)), RpK K ρ H m vs → D.wfK ρ.length m
  | [], vs, _ => fun p hp => absurd hp (by simp)
  | (k, d) :: ds, vs, h => by
    obtain ⟨v, r, e, h1, h2⟩ := h
    intro p hp
    rcases List.mem_cons.mp hp with e | hp
    · rw [e]
      exact Rp.wf d v h1
    · exact RpK.wf ds r h2 p hp
theorem RpO.wf (ob : Ob) (a : Addr) (h : RpO K ρ H ob a) : ob.wf ρ.length := by
  cases ob with
  | lst l => obtain ⟨vs, h1, h2⟩ := h; exact Rps.wf _ _ h2
  | dK m => obtain ⟨vs, h1, h2⟩ := h; exact RpK.wf _ _ h2
  | dT m => obtain ⟨vs, h1, h2⟩ := h; exact RpK.wf _ _ h2
  | lkK m => obtain ⟨o, vs, h1, h2⟩ := h; exact RpK.wf _ _ h2
  | lkT m => obtain ⟨o, vs, h1, h2⟩ := h; exact RpK.wf _ _ h2
theorem RelM.wf {T : List Addr} {M : Mem} (r : RelM K T ρ H M) : wfM M.length M := fun ob hob => by
  obtain ⟨n, hn, e⟩ := List.getElem_of_mem hob
  have hl : n < ρ.length := by rw [r.len]; exact hn
  have := RpO.wf ob ρ[n] (r.obs n ob ρ[n] (by rw [List.getElem?_eq_getElem hn, e]) (List.getElem?_eq_getElem hl))
  rw [r.len] at this
  exact this
theorem RelM.shr {T : List Addr} {ρ0 : List Addr} {M' M'' : Mem} {d d'' : D} {v : V} {n : Nat} (r : RelM K T ρ H M') (hp : ρ0 <+: ρ) (hn : ρ0.length = n) (hv : Rp K ρ H d v) (h : Shr n M' d M'' d'') :
    ∃ ρ'', RelM K T ρ'' H M'' ∧ ρ0 <+: ρ'' ∧ (∀ a ∈ ρ'', a ∈ ρ) ∧ Rp K ρ'' H d'' v := by
  obtain ⟨ix, nd, hi, hl, hob, hlt, hd, hwd, hwm⟩ := h
  have key : ∀ i j, ix[i]? = some j → (ix.map fun j => ρ.getD j 0)[i]? = ρ[j]? := fun i j e => by
    have hj : j < ρ.length := by rw [r.len]; exact hlt j (List.mem_of_getElem? e)
    rw [List.getElem?_map, e, Option.map_some, List.getD_eq_getElem?_getD, List.getElem?_eq_getElem hj]
    rfl
  refine ⟨ix.map fun j => ρ.getD j 0, ⟨?_, by rw [List.length_map, hl], fun i ob a h1 h2 => ?_, r.tabs⟩, ?_, fun a ha => ?_, ?_⟩
  · refine List.pairwise_map.mpr (nd.imp_of_mem fun {x y} hx hy hne e => hne ?_)
    have hx' : x < ρ.length := by rw [r.len]; exact hlt x hx
    have hy' : y < ρ.length := by rw [r.len]; exact hlt y hy
    rw [List.getD_eq_getElem?_getD, List.getD_eq_getElem?_getD, List.getElem?_eq_getElem hx', List.getElem?_eq_getElem hy'] at e
    exact (List.getElem_inj r.nd).mp e
  · have hi' : i < ix.length := by rw [← hl]; exact (List.getElem?_eq_some_iff.mp h1).1
    have e := key i ix[i] (List.getElem?_eq_getElem hi')
    rw [h2] at e
    have q := hob i ix[i] ob (List.getElem?_eq_getElem hi') h1
    have q2 := r.obs ix[i] _ a q e.symm
    exact RpO.ren key ob a (hwm ob (List.mem_of_getElem? h1)) q2
  · refine List.prefix_iff_eq_take.mpr (List.ext_getElem? fun i => ?_)
    by_cases hin : i < n
    · rw [List.getElem?_take_of_lt (by rw [hn]; exact hin), key i i (hi i hin), pre_get hp (a := ρ0[i]'(by rw [hn]; exact hin)) (List.getElem?_eq_getElem (by rw [hn]; exact hin)), List.getElem?_eq_getElem (by rw [hn]; exact hin)]
    · rw [List.getElem?_eq_none (by omega), List.getElem?_eq_none (by rw [List.length_take]; omega)]
  · obtain ⟨j, hj, e⟩ := List.mem_map.mp ha
    have hj' : j < ρ.length := by rw [r.len]; exact hlt j hj
    rw [← e, List.getD_eq_getElem?_getD, List.getElem?_eq_getElem hj']
    exact List.getElem_mem hj'
  · subst hd
    exact Rp.ren key d'' v hwd hv
end

/-! ### the promise of a def -/
abbrev SP3 := List D → Mem → (D → Mem → Prop) → Prop
def lsp (K : PySem.W.Frag) (T : List Addr) (S : SP3) : Sp := fun vs H Q _ => ∃ ρ M ds R, RelM K T ρ H M ∧ Rps K ρ H ds vs ∧ S ds M R ∧ ∀ d M' v H' ρ', R d M' → RelM K T ρ' H' M' → Stp ρ H ρ' H' → Rp K ρ' H' d v → Q v H'
def LookF (K : PySem.W.Frag) (f : Addr) (fd : FuncData) : Prop := ∃ (oc : Value) (od : Option Addr) (osl : Array (Option Value)), K.lookup f = some ⟨oc, od, .func fd, osl⟩
structure Fn3 (P : Program) (w : World) (K : PySem.W.Frag) (mg : Str → Option Value) (base : Heap) (T : List Addr) (k : Nat) (x : Str) (ps : List Str) (S : SP3) : Prop where
  ex : ∃ f fd, mg x = some (.ref f) ∧ FnOk P w K mg base CX0 k f fd ps (lsp K T S) ∧ PySem.W.keepIn K (.ref f) = true ∧ Binds K fd ps [] ∧ LookF K f fd
theorem Fn3.imp {P : Program} {w : World} {K : PySem.W.Frag} {mg : Str → Option Value} {base : Heap} {T : List Addr} {k : Nat} {x : Str} {ps : List Str} {S S' : SP3} (h : Fn3 P w K mg base T k x ps S) (i : ∀ ds M R, S' ds M R → S ds M R) : Fn3 P w K mg base T k x ps S' := by
  obtain ⟨f, fd, h1, h2, h3, h4, h5⟩ := h
  exact ⟨f, fd, h1, h2.imp fun vs H Q E ⟨ρ, M, ds, R, a, c, d, e⟩ => ⟨ρ, M, ds, R, a, c, i _ _ _ d, e⟩, h3, h4, h5⟩
section
variable {X : Cx} {T : List Addr} {b : Bool}
def wCall (S : SP3) (w : WA) : WE := fun env M R => w env M fun ds M1 => S ds M1 R
theorem q_call {k k' : Nat} {x : Str} {ps : List Str} {S : SP3} {e : Expr} {es : List Expr} {w : WA} {p pos : Pos} (h : Fn3 X.prog X.w X.K X.mg X.base T k x ps S) (hr : Room k' X.A) (hg : Gl X x) (ha : QA X T b (e :: es) w) (hk : k ≤ k' := by decide) (hdb : (x == ("__debug__" : Str)) = false := by decide)
    (he : starEach (e :: es) X.env = (false, eval e X.env) :: starEach es X.env := by rfl) (hpl : (backTo pos (starEach es X.env)).any (·.1) = false := by rfl) : QE X T b (.Call (.Name x p) (e :: es) [] pos) (wCall S w) := by
  obtain ⟨f, fd, h1, h2, h3, h4, h5⟩ := h.ex
  exact ⟨PE.weak (pe_call h2 (hr.mono hk) hg h1 h3 h4 .nil pass0 ha.pa hdb he hpl) fun σ H Q ⟨ρ, env, M, R, rs, hw, p⟩ => liftA_go rs hw fun ds M1 vs H1 ρ1 h1 r1 s1 p1 => by
    rw [List.append_nil]
    exact ⟨ρ1, M1, ds, R, r1.m, p1, h1, fun d M' v H' ρ' hR hm hs hv => p d M' v H' ρ' hR ⟨hm, r1.e.stp hs, r1.c.stp hs⟩ (s1.trans hs) hv⟩⟩
theorem q_call0 {k k' : Nat} {x : Str} {ps : List Str} {S : SP3} {p pos : Pos} (h : Fn3 X.prog X.w X.K X.mg X.base T k x ps S) (hr : Room k' X.A) (hg : Gl X x) (hk : k ≤ k' := by decide) (hdb : (x == ("__debug__" : Str)) = false := by decide) : QE X T b (.Call (.Name x p) [] [] pos) (wCall S wNil) := by
  obtain ⟨f, fd, h1, h2, h3, h4, h5⟩ := h.ex
  exact ⟨PE.weak (pe_call0 h2 (hr.mono hk) hg h1 h3 h4 .nil pass0 hdb) fun σ H Q ⟨ρ, env, M, R, rs, hw, p⟩ => 
    ⟨ρ, M, [], R, rs.m, rfl, hw, fun d M' v H' ρ' hR hm hs hv => p d M' v H' ρ' hR ⟨hm, rs.e.stp hs, rs.c.stp hs⟩ hs hv⟩⟩
end
/-- the names' values at the entry -/
def start3 (N : List Str) (ds : List D) : Env3 := ds.map some ++ List.replicate (N.length - ds.length) none
/-- what a body is to reach -/
def ends3 (n : Nat) (R : D → Mem → Prop) : Ends3 := { nx := fun _ M' => ∃ d'' M'', Shr n M' .non M'' d'' ∧ R d'' M'', rt := fun d M' => ∃ d'' M'', Shr n M' d M'' d'' ∧ R d'' M'' }
section
variable {P : Program} {w : World} {K : PySem.W.Frag} {mg : Str → Option Value} {base : Heap} {T : List Addr}
theorem start_rel {ρ : List Addr} {H : Hp} : ∀ {ds : List D} {vs : List V} (N : List Str), Rps K ρ H ds vs → RelE K ρ H (L2.start N vs) (start3 N ds) := fun {ds vs} N h => by
  have hl := h.length
  refine ⟨by unfold L2.start start3; simp [hl], fun i d e => ?_⟩
  unfold start3 at e
  by_cases hi : i < ds.length
  · rw [List.getElem?_append_left (by simpa using hi), List.getElem?_map, List.getElem?_eq_getElem hi] at e
    have e : ds[i] = d := Option.some.inj (Option.some.inj e)
    obtain ⟨v, h1, h2⟩ := h.get (List.getElem?_eq_getElem hi)
    refine ⟨v, ?_, e ▸ h2⟩
    unfold L2.start
    rw [List.getElem?_append_left (by rw [List.length_map, hl]; exact hi), List.getElem?_map, h1]
    rfl
  · rw [List.getElem?_append_right (by simpa using Nat.not_lt.mp hi), List.getElem?_replicate] at e
    split at e <;> cases e
/-- from the pure reading of a body to the reading in the heap -/
theorem body_go {X : Cx} {b : Bool} {N : List Str} {S : SP3} {wb : WS} (hK : X.K = K) (hcode : ∀ H, (∀ P ∈ T, TabA H P) → CodeOk X b H)
    (pure_ : ∀ ds M R, wfM M.length M → S ds M R → wb (ends3 M.length R) (start3 N ds) M) {vs : List V} {H : Hp} {Q : VK} {E : XK} (h : lsp K T S vs H Q E) : liftS X T b wb { nx := fun _ H' => Q .non H', rt := Q } (L2.start N vs) H := by
  subst hK
  obtain ⟨ρ, M, ds, R, hm, hv, hs, q⟩ := h
  refine liftS_go ⟨hm, start_rel N hv, hcode H hm.tabs⟩ (pure_ ds M R hm.wf hs) ⟨fun env' M' σ' H' ρ' h1 r1 s1 => ?_, fun d M' v H' ρ' h1 r1 s1 p1 => ?_, fun _ _ _ _ _ h1 _ _ => h1.elim, fun _ _ _ _ _ h1 _ _ => h1.elim⟩
  · obtain ⟨d'', M'', hsh, hR⟩ := h1
    obtain ⟨ρ'', q1, q2, q4, q3⟩ := RelM.shr r1.m s1.pre hm.len (d := .non) (v := .non) rfl hsh
    exact q d'' M'' .non H' ρ'' hR q1 ⟨q2, s1.tup, s1.tab, s1.code, s1.frz, fun a o h n => let ⟨n1, h1⟩ := s1.oth0 a o h n; ⟨fun z => n1 (q4 a z), h1⟩⟩ q3
  · obtain ⟨d'', M'', hsh, hR⟩ := h1
    obtain ⟨ρ'', q1, q2, q4, q3⟩ := RelM.shr r1 s1.pre hm.len p1 hsh
    exact q d'' M'' v H' ρ'' hR q1 ⟨q2, s1.tup, s1.tab, s1.code, s1.frz, fun a o h n => let ⟨n1, h1⟩ := s1.oth0 a o h n; ⟨fun z => n1 (q4 a z), h1⟩⟩ q3
/-- a def of the text whose code object stands at c -/
structure FunC (K : PySem.W.Frag) (x qual : Str) (st : Stmt) (f : Addr) (fd : FuncData) (c : Addr) : Prop where
  ex : ∃ (oc : Value) (od : Option Addr) (kV doc pm : Value) (an : Option Addr) (ct : Value) (osl : Array (Option Value)),
    fd = PySem.W.fnOf x qual (defArgs st) (defBody st) (defScope st) .none kV doc pm an (.ref c) ct ∧ K.lookup f = some ⟨oc, od, .func fd, osl⟩ ∧ PySem.W.codeIn K (.ref c) qual = true
  kp : PySem.W.keepIn K (.ref f) = true
theorem FunC.fun {x qual : Str} {st : Stmt} {f : Addr} {fd : FuncData} {c : Addr} (F : FunC K x qual st f fd c) : Fun K x qual st f fd := by
  obtain ⟨oc, od, kV, doc, pm, an, ct, osl, h⟩ := F.ex
  exact ⟨⟨oc, od, kV, doc, pm, an, _, ct, osl, h⟩, F.kp⟩
theorem funC_mk {x qual : Str} {st : Stmt} {f c : Addr} {oc : Value} {od an : Option Addr} {osl : Array (Option Value)} {kV doc pm ct : Value} (l : K.lookup f = some ⟨oc, od, .func (PySem.W.fnOf x qual (defArgs st) (defBody st) (defScope st) .none kV doc pm an (.ref c) ct), osl⟩)
    (h : PySem.W.codeIn K (.ref c) qual = true) (k : PySem.W.keepIn K (.ref f) = true) : FunC K x qual st f (PySem.W.fnOf x qual (defArgs st) (defBody st) (defScope st) .none kV doc pm an (.ref c) ct) c := ⟨⟨oc, od, kV, doc, pm, an, ct, osl, rfl, l, h⟩, k⟩
/-- THE RULE for a def that makes no generator -/
theorem fn3 {x qual : Str} {st : Stmt} {f : Addr} {fd : FuncData} {N ps : List Str} {k : Nat} {S : SP3} (F : Fun K x qual st f fd) (Sc : FnScope N ps (defScope st)) (len : ∀ ds M R, S ds M R → ds.length = ps.length) (hmg : mg x = some (.ref f)) (hb : Binds K fd ps [])
    (body : ∀ (cdv : Value) (A : Around) (outer : List Env) (s : Shared) (H : Hp) (E : XK), Room k (A.deeper (envOfC qual (defScope st) s.heap.objs.size f cdv)) →
      ∃ wb, QB (cxOf CX0 P w K mg base N qual (defScope st) f cdv A outer s H E).nox T false (defBody st) wb ∧ ∀ ds M R, wfM M.length M → S ds M R → wb (ends3 M.length R) (start3 N ds) M) : Fn3 P w K mg base T (k + 1) x ps S := by
  refine ⟨f, fd, hmg, ?_, F.kp, hb, let ⟨oc, od, _, _, _, _, _, _, osl, _, lk, _⟩ := F.ex; ⟨oc, od, osl, lk⟩⟩
  refine F.ok Sc (fun vs H Q E h => ?_) fun cdv A outer s H vs Q E hr h => ?_
  · obtain ⟨ρ, M, ds, R, _, hv, hs, _⟩ := h
    rw [hv.length]
    exact len ds M R hs
  · obtain ⟨wb, hq, hp⟩ := body cdv A outer s H E hr
    exact ⟨_, hq.pss, body_go (by rfl) (fun _ _ z => by cases z) hp h⟩
/-- THE RULE for a def that makes generators: its code object at c, its table at Pt -/
theorem fn3c {x qual : Str} {st : Stmt} {f : Addr} {fd : FuncData} {c Pt : Addr} {N ps : List Str} {k : Nat} {S : SP3} (F : FunC K x qual st f fd c) (Sc : FnScope N ps (defScope st)) (len : ∀ ds M R, S ds M R → ds.length = ps.length) (hmg : mg x = some (.ref f)) (hb : Binds K fd ps [])
    (hcd : PySem.W.CodeHd base c Pt) (hT : Pt ∈ T)
    (body : ∀ (A : Around) (outer : List Env) (s : Shared) (H : Hp) (E : XK), Room k (A.deeper (envOfC qual (defScope st) s.heap.objs.size f (.ref c))) →
      ∃ wb, QB (cxOf CX0 P w K mg base N qual (defScope st) f (.ref c) A outer s H E).nox T true (defBody st) wb ∧ ∀ ds M R, wfM M.length M → S ds M R → wb (ends3 M.length R) (start3 N ds) M) : Fn3 P w K mg base T (k + 1) x ps S := by
  refine ⟨f, fd, hmg, ?_, F.kp, hb, let ⟨oc, od, _, _, _, _, _, osl, _, lk, _⟩ := F.ex; ⟨oc, od, osl, lk⟩⟩
  obtain ⟨oc, od, kV, doc, pm, an, ct, osl, rfl, lk, hcd'⟩ := F.ex
  refine fn_of lk hcd' Sc (fun vs H Q E h => ?_) fun A outer s H vs Q E hr h => ?_
  · obtain ⟨ρ, M, ds, R, _, hv, hs, _⟩ := h
    rw [hv.length]
    exact len ds M R hs
  · obtain ⟨wb, hq, hp⟩ := body A outer s H E hr
    exact ⟨_, hq.pss.nox, body_go (X := (cxOf CX0 P w K mg base N qual (defScope st) f (.ref c) A outer s H E).nox) (by rfl) (fun H ht _ => ⟨c, Pt, rfl, .inl hcd, ht Pt hT⟩) hp h⟩
end
end R3
set_option Elab.async false
set_option linter.all false
set_option maxRecDepth 100000
set_option maxHeartbeats 2000000
namespace R3
open PySem PySem.Spec PyProof.Rows L2 Gx

/-! ### what is walked -/
/-- the items, and what must stay so that they come -/
structure Src where
  items : List D
  ok : Mem → Prop := fun _ => True
abbrev WI := Env3 → Mem → (Src → Mem → Prop) → Prop
/-- the iterator J hands out the items -/
def JOk (K : PySem.W.Frag) (T : List Addr) (ρ0 : List Addr) (H0 : Hp) (J : It) (s : Src) : Prop := ∀ (i : Nat) ρ H M, Stp ρ0 H0 ρ H → RelM K T ρ H M → s.ok M →
  (∀ d, s.items[i]? = some d → J.go i H ∧ ∀ x H', J.yld i H x H' → Ext3 H H' ∧ Rp K ρ H' d x) ∧ (s.items.length ≤ i → J.stop i H)
section
variable (X : Cx) (T : List Addr) (b : Bool)
def PostI (ρ : List Addr) (σ : Sg) (H : Hp) (env : Env3) (RI : Src → Mem → Prop) (R : It → Hp → Prop) : Prop := ∀ s M' ρ' H' J, RI s M' → RelS X T b ρ' σ H' env M' → Stp ρ H ρ' H' → JOk X.K T ρ' H' J s → R J H'
def liftI (w : WI) : TI := fun σ H R => ∃ ρ env M RI, RelS X T b ρ σ H env M ∧ w env M RI ∧ PostI X T b ρ σ H env RI R
structure QI (tg e : Expr) (w : WI) : Prop where
  pi : PI X tg e (liftI X T b w)
end
section
variable {X : Cx} {T : List Addr} {b : Bool} {ρ ρ' : List Addr} {σ : Sg} {H H' : Hp} {env : Env3} {M : Mem}
theorem PI.weak {tg e : Expr} {t t' : TI} (h : PI X tg e t) (k : ∀ σ H Q, t' σ H Q → t σ H Q) : PI X tg e t' := ⟨fun pins s σ H R I q => h.run pins s σ H R I (k _ _ _ q)⟩
/-- a list of the memory | a tuple -/
def wIter (w : WE) : WI := fun env M R => w env M fun d M1 => match d with
  | .loc n => match M1[n]? with
    | some (.lst l) => R ⟨l, fun M' => M'[n]? = some (.lst l)⟩ M1
    | _ => False
  | .rol l => R ⟨l, fun _ => True⟩ M1
  | _ => False
def wIterT (w : WE) : WI := fun env M R => w env M fun d M1 => match d with
  | .tup l => R ⟨l, fun _ => True⟩ M1
  | _ => False
/-- a list that is read here is the same whoever tells it -/
theorem q_iter {tg e : Expr} {w : WE} (h : QE X T b e w) : QI X T b tg e (wIter w) := by
  refine ⟨⟨fun pins s σ H R I ⟨ρ, env, M, RI, rs, hw, p⟩ => ?_⟩⟩
  refine thn (h.pe.run pins s σ H (fun v H1 => ∃ d M1 ρ1, (match d with
    | .loc n => match M1[n]? with
      | some (.lst l) => RI ⟨l, fun M' => M'[n]? = some (.lst l)⟩ M1
      | _ => False
    | .rol l => RI ⟨l, fun _ => True⟩ M1
    | _ => False) ∧ RelS X T b ρ1 σ H1 env M1 ∧ Stp ρ H ρ1 H1 ∧ Rp X.K ρ1 H1 d v) I (lift_go rs hw fun d M1 v H1 ρ1 h1 r1 s1 p1 => ⟨d, M1, ρ1, h1, r1, s1, p1⟩)) fun v s1 ⟨x, H1, I1, rv, d, M1, ρ1, h1, r1, st1, p1⟩ => ?_
  have fin : ∀ (a : Addr) (vs : List V) (l : List D) (ok : Mem → Prop), x = .ref a → SqL X.K H1 a vs → RI ⟨l, ok⟩ M1 → Rps X.K ρ1 H1 l vs → (∀ ρ H M, Stp ρ1 H1 ρ H → RelM X.K T ρ H M → ok M → ∃ vs', SqL X.K H a vs' ∧ Rps X.K ρ H l vs') →
      wpAny (model X.prog X.w) X.A (pyIter v) (PIE X pins σ tg R) X.xe s1 := by
    intro a vs l ok ex hs hR hl hok
    subst ex
    cases rv
    obtain ⟨its, rv, hp, hz⟩ := I1.list hs
    refine wpAny_pyIter_list hp.isList ?_
    refine ⟨s1.heap.objs.size, [s1.heap.objs.size], _, Itl X.K a, H1, rfl, I1.kept (t' := s1.toks) fun b o e => Heap.get?_push_of_some _ e, turn_list a _, ⟨_, Heap.get?_push_size _ rfl, rfl, rfl⟩, fun b hb => ?_, ?_⟩
    · have e : b = s1.heap.objs.size := by simpa using hb
      subst e
      exact I1.fpOk (Nat.le_refl _) (I1.hok.fresh (Nat.le_refl _))
    · refine p _ M1 ρ1 H1 _ hR r1 st1 fun i ρ2 H2 M2 s2 r2 ok2 => ?_
      obtain ⟨vs', q1, q2⟩ := hok ρ2 H2 M2 s2 r2 ok2
      refine ⟨fun d e => ?_, fun hle => ⟨vs', q1, by rw [q2.length]; exact hle⟩⟩
      obtain ⟨v, e1, e2⟩ := q2.get e
      refine ⟨⟨vs', v, q1, e1⟩, fun x H' hy => ?_⟩
      obtain ⟨rfl, hy⟩ := hy
      refine ⟨Ext3.refl _, ?_⟩
      have := hy vs' q1
      rw [e1] at this
      cases this
      exact e2
  split at h1
  · rename_i n
    obtain ⟨a, ex, ha⟩ := p1
    split at h1
    · rename_i l e
      obtain ⟨vs, q1, q2⟩ := r1.m.obs n _ a e ha
      refine fin a vs l _ ex (.inl (.inl q1)) h1 q2 fun ρ2 H2 M2 s2 r2 ok2 => ?_
      obtain ⟨vs', q1', q2'⟩ := r2.obs n _ a ok2 (pre_get s2.pre ha)
      exact ⟨vs', .inl (.inl q1'), q2'⟩
    · exact h1.elim
  · rename_i l
    obtain ⟨a, vs, ex, q1, q2⟩ := p1
    exact fin a vs l _ ex q1.sq h1 q2 fun ρ2 H2 M2 s2 r2 ok2 => ⟨vs, (q1.mono s2.frl).sq, q2.stp s2⟩
  · exact h1.elim
/-- a tuple -/
theorem q_iterT {tg e : Expr} {w : WE} (h : QE X T b e w) : QI X T b tg e (wIterT w) := ⟨PI.weak (pi_tup h.pe) fun σ H R ⟨ρ, env, M, RI, rs, hw, p⟩ => lift_go rs hw fun d M1 v H1 ρ1 h1 r1 s1 p1 => by
  split at h1
  · rename_i l
    obtain ⟨a, vs, e, t, r⟩ := p1
    refine ⟨a, e, ⟨vs, t.sq⟩, p _ M1 ρ1 H1 _ h1 r1 s1 fun i ρ2 H2 M2 s2 r2 _ => ⟨fun d ed => ?_, fun hle => ⟨vs, (t.mono s2.tup).sq, by rw [r.length]; exact hle⟩⟩⟩
    obtain ⟨v, e1, e2⟩ := (r.stp s2).get ed
    refine ⟨⟨vs, v, (t.mono s2.tup).sq, e1⟩, fun x H' hy => ?_⟩
    obtain ⟨rfl, hy⟩ := hy
    refine ⟨Ext3.refl _, ?_⟩
    have := hy vs (t.mono s2.tup).sq
    rw [e1] at this
    cases this
    exact e2
  · exact h1.elim⟩
/-- range(..) -/
def rgD (lo : Int) (n : Nat) : List D := (List.range n).map fun (i : Nat) => D.int (lo + (i : Int))
theorem rg_jok {K : PySem.W.Frag} {lo : Int} {n : Nat} : JOk K T ρ H (Itr lo n) ⟨rgD lo n, fun _ => True⟩ := fun i ρ2 H2 M2 s2 r2 _ => by
  refine ⟨fun d ed => ?_, fun hle => ?_⟩
  · have ed : (rgD lo n)[i]? = some d := ed
    unfold rgD at ed
    rw [List.getElem?_map] at ed
    by_cases hi : i < n
    · rw [List.getElem?_range hi] at ed
      have ed : D.int (lo + (i : Int)) = d := Option.some.inj ed
      subst ed
      refine ⟨hi, fun x H' hy => ?_⟩
      obtain ⟨rfl, rfl⟩ := hy
      exact ⟨Ext3.refl _, rfl⟩
    · rw [List.getElem?_eq_none (by simpa using hi)] at ed
      cases ed
  · have hle : (rgD lo n).length ≤ i := hle
    unfold rgD at hle
    rw [List.length_map, List.length_range] at hle
    exact hle
def inR (i : Int) : Prop := -(2 ^ 62) ≤ i ∧ i < 2 ^ 62
def wRg1 (w : WA) : WI := fun env M R => w env M fun ds M1 => match ds with
  | [.int j] => inR j ∧ R ⟨rgD 0 j.toNat, fun _ => True⟩ M1
  | _ => False
def wRg2 (w : WA) : WI := fun env M R => w env M fun ds M1 => match ds with
  | [.int i, .int j] => (inR i ∧ inR j) ∧ R ⟨rgD i (j - i).toNat, fun _ => True⟩ M1
  | _ => False
theorem q_range1 {tg a : Expr} {w : WA} {p pos : Pos} (hg : Gl X "range") (hm : X.mg "range" = none) (ha : QA X T b [a] w) (hs : starEach [a] X.env = [(false, eval a X.env)] := by rfl) : QI X T b tg (.Call (.Name "range" p) [a] [] pos) (wRg1 w) :=
  ⟨PI.weak (pi_range1 hg hm ha.pa hs) fun σ H R ⟨ρ, env, M, RI, rs, hw, p⟩ => liftA_go rs hw fun ds M1 vs H1 ρ1 h1 r1 s1 p1 => by
    match ds, h1, p1 with
    | [.int j], h1, p1 =>
      obtain ⟨v, r, e, q1, q2⟩ := p1
      have q1 : v = .int j := q1
      have q2 : r = [] := q2
      subst e q1 q2
      exact ⟨j, rfl, h1.1.1, h1.1.2, p _ M1 ρ1 H1 _ h1.2 r1 s1 rg_jok⟩⟩
theorem q_range2 {tg a c : Expr} {w : WA} {p pos : Pos} (hg : Gl X "range") (hm : X.mg "range" = none) (ha : QA X T b [a, c] w) (hs : starEach [a, c] X.env = (false, eval a X.env) :: starEach [c] X.env := by rfl) (hs2 : starEach [c] X.env = [(false, eval c X.env)] := by rfl) : QI X T b tg (.Call (.Name "range" p) [a, c] [] pos) (wRg2 w) :=
  ⟨PI.weak (pi_range2 hg hm ha.pa (by rw [hs, hs2]) hs2) fun σ H R ⟨ρ, env, M, RI, rs, hw, p⟩ => liftA_go rs hw fun ds M1 vs H1 ρ1 h1 r1 s1 p1 => by
    match ds, h1, p1 with
    | [.int i, .int j], h1, p1 =>
      obtain ⟨v, r, e, q1, u, r', e', q1', q2'⟩ := p1
      have q1 : v = .int i := q1
      have q1' : u = .int j := q1'
      have q2' : r' = [] := q2'
      subst e q1 e' q1' q2'
      exact ⟨i, j, rfl, ⟨h1.1.1.1, h1.1.1.2, h1.1.2.1, h1.1.2.2⟩, p _ M1 ρ1 H1 _ h1.2 r1 s1 rg_jok⟩⟩

/-! ### for -/
def forW (ok : Mem → Prop) (g : WG) (wb : WS) (E : Ends3) : List D → Env3 → Mem → Prop
  | [], env, M => ok M ∧ E.nx env M
  | d :: ds, env, M => ok M ∧ g d env M fun env1 M1 => wb { E with nx := forW ok g wb E ds, ct := forW ok g wb E ds, bk := E.nx } env1 M1
def wFor (wi : WI) (g : WG) (wb : WS) : WS := fun E env M => wi env M fun s M1 => forW s.ok g wb E s.items env M1
theorem forW_ok {ok : Mem → Prop} {g : WG} {wb : WS} {E : Ends3} {ds : List D} {env : Env3} {M : Mem} (h : forW ok g wb E ds env M) : ok M := by
  cases ds <;> exact h.1
theorem q_for {vs : List Nat} {tg iter : Expr} {body : List Stmt} {wi : WI} {g : WG} {wb : WS} {pos : Pos} (hp : PassesOwn (model X.prog X.w) X.A X.env X.xe) (hc : X.calm = true) (hi : QI X T b tg iter wi) (hg : QG X T b vs tg g) (hb : QB X T b body wb)
    (hs : ∀ x, foldedSetIterable iter X.env x = pure x := by intro _; rfl) : QS X T b (.For tg iter body [] pos) (wFor wi g wb) :=
  ⟨PS.weak (ps_for hp hc hi.pi hg.pg hb.pss hs) fun D' σ H ⟨ρ, env, M, E, rs, hw, p⟩ => ⟨ρ, env, M, _, rs, hw, fun s M1 ρ1 H1 J h1 r1 s1 hJ => by
    refine ⟨fun i m σ' H' => ∃ ρ' env' M', RelS X T b ρ' σ' H' env' M' ∧ Stp ρ1 H1 ρ' H' ∧ m = s.items.length - i ∧ i ≤ s.items.length ∧ forW s.ok g wb E (s.items.drop i) env' M', ⟨s.items.length, ρ1, env, M1, r1, Stp.refl _ _, by omega, Nat.zero_le _, h1⟩, ?_⟩
    rintro i m σ' H' ⟨ρ', env', M', r', s', rfl, hle, hf⟩
    obtain ⟨j1, j2⟩ := hJ i ρ' H' M' s' r'.m (forW_ok hf)
    by_cases hlt : i < s.items.length
    · rw [List.drop_eq_getElem_cons hlt] at hf
      obtain ⟨go, yl⟩ := j1 _ (List.getElem?_eq_getElem hlt)
      refine .inr ⟨go, fun σ2 H2 => ∃ ρ2 env2 M2, RelS X T b ρ2 σ2 H2 env2 M2 ∧ Stp ρ1 H1 ρ2 H2 ∧ forW s.ok g wb E (s.items.drop (i + 1)) env2 M2, fun σ2 H2 ⟨ρ2, env2, M2, r2, s2, f2⟩ => ⟨s.items.length - (i + 1), by omega, ρ2, env2, M2, r2, s2, rfl, hlt, f2⟩, fun x H2 hy => ?_⟩
      obtain ⟨e2, rp⟩ := yl x H2 hy
      refine ⟨ρ', env', M', _, s.items[i], r'.ext e2, rp, hf.2, fun env3 M3 σ3 H3 ρ3 h3 r3 s3 _ => ?_⟩
      have s13 : Stp ρ1 H1 ρ3 H3 := (s'.trans e2.stp).trans s3
      exact liftS_go r3 h3 ⟨fun a c d e f k1 k2 k3 => ⟨f, a, c, k2, s13.trans k3, k1⟩, fun a c d e f k1 k2 k3 k4 => p.rt a c d e f k1 k2 ((s1.trans s13).trans k3) k4, fun a c d e f k1 k2 k3 => p.nx a c d e f k1 k2 ((s1.trans s13).trans k3), fun a c d e f k1 k2 k3 => ⟨f, a, c, k2, s13.trans k3, k1⟩⟩
    · have hi : i = s.items.length := by omega
      subst hi
      rw [List.drop_length] at hf
      exact .inl ⟨j2 (Nat.le_refl _), p.nx _ _ _ _ _ hf.2 r' (s1.trans s')⟩⟩⟩

/-! ### comprehensions -/
/-- the slots vs forgotten -/
def wipeE (env : Env3) : List Nat → Env3
  | [] => env
  | v :: vs => (wipeE env vs).set v none
theorem RelE.unset {K : PySem.W.Frag} (i : Nat) (r : RelE K ρ H σ env) : RelE K ρ H (σ.set i none) (env.set i none) := by
  refine ⟨by rw [List.length_set, List.length_set]; exact r.len, fun j d' e => ?_⟩
  by_cases hj : i = j
  · subst hj
    by_cases hi : i < env.length
    · rw [List.getElem?_set_self hi] at e
      cases e
    · rw [List.getElem?_eq_none (by simpa using hi)] at e
      cases e
  · rw [List.getElem?_set_ne hj] at e ⊢
    exact r.at_ j d' e
theorem RelE.wipe {K : PySem.W.Frag} (r : RelE K ρ H σ env) : ∀ vs : List Nat, RelE K ρ H (wipe σ vs) (wipeE env vs)
  | [] => r
  | v :: vs => (RelE.wipe r vs).unset v
theorem Keep.wipe {vs : List Nat} {σ σ' : Sg} (k : Keep vs σ σ') : wipe σ' vs = wipe σ vs := by
  apply List.ext_getElem?
  intro j
  have key : ∀ (τ : Sg) (l : List Nat), (L2.wipe τ l)[j]? = if j ∈ l then (if j < τ.length then some none else none) else τ[j]? := by
    intro τ l
    induction l with
    | nil => simp [L2.wipe]
    | cons v r ih =>
      unfold L2.wipe
      by_cases e : v = j
      · subst e
        rw [List.getElem?_set, if_pos rfl, wipe_length, if_pos List.mem_cons_self]
      · rw [List.getElem?_set_ne e, ih]
        by_cases hm : j ∈ r
        · rw [if_pos hm, if_pos (List.mem_cons_of_mem _ hm)]
        · rw [if_neg hm, if_neg (fun z => (List.mem_cons.mp z).elim (fun q => e q.symm) hm)]
  rw [key, key]
  by_cases hm : j ∈ vs
  · rw [if_pos hm, if_pos hm, k.1]
  · rw [if_neg hm, if_neg hm, k.2 j hm]
/-- a clause's tests -/
structure QTs (X : Cx) (T : List Addr) (b : Bool) (ifs : List Expr) (w : WT) : Prop where
  pts : PTs X ifs (liftT X T b w)
def wYes : WT := fun _ M R => R true M
theorem q_tsnil : QTs X T b [] wYes := ⟨⟨fun pins s σ H Q I ⟨ρ, env, M, R, rs, hw, p⟩ => pts_nil.run pins s σ H Q I (p true M H ρ hw rs (Stp.refl _ _))⟩⟩
theorem q_tsone {c : Expr} {w : WT} (h : QT X T b c w) : QTs X T b [c] w := ⟨pts_one h.pt⟩
/-- a new list of the items -/
abbrev WL := WA
section
variable (X : Cx) (T : List Addr) (b : Bool)
def PostL (ρ : List Addr) (σ : Sg) (H : Hp) (env : Env3) (R : List D → Mem → Prop) (Q : VK) : Prop := ∀ ds M' vs H' ρ' p, R ds M' → RelS X T b ρ' σ H' env M' → Stp ρ H ρ' H' → H p = none → p ∉ ρ' → H' p = some (.lst vs) → Rps X.K ρ' H' ds vs → Q (.ref p) H'
def liftL (w : WL) : TE := fun σ H Q => ∃ ρ env M R, RelS X T b ρ σ H env M ∧ w env M R ∧ PostL X T b ρ σ H env R Q
structure QL (e : Expr) (w : WL) : Prop where
  pe : PE X e (liftL X T b w)
end
/-- the turns: what is made so far, the state -/
def lcW (vs : List Nat) (ok : Mem → Prop) (g : WG) (tt : WT) (te : WE) (env : Env3) (R : List D → Mem → Prop) : List D → List D → Mem → Prop
  | [], acc, M => ok M ∧ R acc M
  | d :: ds, acc, M => ok M ∧ g d (wipeE env vs) M fun env1 M1 => tt env1 M1 fun c M2 => if c = true then te env1 M2 fun y M3 => acc.length < sizeLine ∧ lcW vs ok g tt te env R ds (acc ++ [y]) M3 else lcW vs ok g tt te env R ds acc M2
def wLc (vs : List Nat) (wi : WI) (g : WG) (tt : WT) (te : WE) : WL := fun env M R => wi env M fun s M1 => lcW vs s.ok g tt te env R s.items [] M1
theorem lcW_ok {vs : List Nat} {ok : Mem → Prop} {g : WG} {tt : WT} {te : WE} {env : Env3} {R : List D → Mem → Prop} {ds acc : List D} {M : Mem} (h : lcW vs ok g tt te env R ds acc M) : ok M := by
  cases ds <;> exact h.1
/-- a list that stands apart is written -/
theorem RelM.apart {K : PySem.W.Frag} {Dl : Addr} {xs : List V} {o : HO} (r : RelM K T ρ H M) (hD : Dl ∉ ρ) (e : H Dl = some (.lst xs)) : RelM K T ρ (upd H Dl o) M := by
  have ne : ∀ {a u}, H a = some u → (∀ ys, u ≠ .lst ys) → upd H Dl o a = some u := fun {a u} h n => by
    rw [upd_ne (fun z => by rw [z, e] at h; exact n xs (Option.some.inj h).symm)]
    exact h
  have tup : ∀ a xs, H a = some (.tup xs) → upd H Dl o a = some (.tup xs) := fun a xs h => ne h fun ys z => by cases z
  have frl : ∀ a o' xs, H a = some (.frz o' (.lst xs)) → upd H Dl o a = some (.frz o' (.lst xs)) := fun a o' xs h => ne h fun ys z => by cases z
  refine ⟨r.nd, r.len, fun n ob a h1 h2 => ?_, fun P hP => tabA_upd e (fun ps z => by cases z) (fun c P z => by unfold codeH at z; cases z) P (r.tabs P hP)⟩
  have ha : upd H Dl o a = H a := upd_ne fun z => hD (z ▸ List.mem_of_getElem? h2)
  have q := r.obs n ob a h1 h2
  cases ob with
  | lst l => obtain ⟨vs, q1, q2⟩ := q; exact ⟨vs, ha.trans q1, Rps.mono (List.prefix_refl _) tup frl _ _ q2⟩
  | dK l => obtain ⟨vs, q1, q2⟩ := q; exact ⟨vs, ha.trans q1, RpK.mono (List.prefix_refl _) tup frl _ _ q2⟩
  | dT l => obtain ⟨vs, q1, q2⟩ := q; exact ⟨vs, ha.trans q1, RpK.mono (List.prefix_refl _) tup frl _ _ q2⟩
  | lkK l => obtain ⟨o', vs, q1, q2⟩ := q; exact ⟨o', vs, ha.trans q1, RpK.mono (List.prefix_refl _) tup frl _ _ q2⟩
  | lkT l => obtain ⟨o', vs, q1, q2⟩ := q; exact ⟨o', vs, ha.trans q1, RpK.mono (List.prefix_refl _) tup frl _ _ q2⟩
theorem Rps.apart {K : PySem.W.Frag} {Dl : Addr} {xs : List V} {o : HO} (e : H Dl = some (.lst xs)) {ds : List D} {vs : List V} (r : Rps K ρ H ds vs) : Rps K ρ (upd H Dl o) ds vs := by
  refine Rps.mono (List.prefix_refl _) (fun a xs h => ?_) (fun a o' xs h => ?_) ds vs r
  · rw [upd_ne (fun z => by rw [z, e] at h; cases h)]
    exact h
  · rw [upd_ne (fun z => by rw [z, e] at h; cases h)]
    exact h
theorem Rp.apart {K : PySem.W.Frag} {Dl : Addr} {xs : List V} {o : HO} (e : H Dl = some (.lst xs)) {d : D} {v : V} (r : Rp K ρ H d v) : Rp K ρ (upd H Dl o) d v := by
  refine Rp.mono (List.prefix_refl _) (fun a xs h => ?_) (fun a o' xs h => ?_) d v r
  · rw [upd_ne (fun z => by rw [z, e] at h; cases h)]
    exact h
  · rw [upd_ne (fun z => by rw [z, e] at h; cases h)]
    exact h
/-- the list was not there at first: the step goes on -/
theorem Stp.apart {Dl : Addr} {xs : List V} {o : HO} (s : Stp ρ H ρ' H') (h0 : H Dl = none) (e : H' Dl = some (.lst xs)) : Stp ρ H ρ' (upd H' Dl o) := by
  have ne : ∀ {a u w}, H a = some u → H' a = some w → upd H' Dl o a = some w := fun {a u w} h h' => by
    rw [upd_ne (fun z => by rw [z, h0] at h; cases h)]
    exact h'
  refine ⟨s.pre, fun a xs h => ne h (s.tup a xs h), fun P h => tabA_upd e (fun ps z => by cases z) (fun c P z => by unfold codeH at z; cases z) P (s.tab P h), fun c a P h => ne h (s.code c a P h), fun a o' xs h => ne h (s.frz a o' xs h), fun a o' h n => ?_⟩
  obtain ⟨h1, h2⟩ := s.oth0 a o' h n
  exact ⟨h1, h2.imp (fun z => ne h z) fun ⟨ps, ps', e, z⟩ => ⟨ps, ps', e, ne h z⟩⟩
theorem new_notin {K : PySem.W.Frag} {p : Addr} (r : RelM K T ρ H M) (hp : H p = none) : p ∉ ρ := fun hm => by
  obtain ⟨n, hn, e1⟩ := List.getElem_of_mem hm
  have hl : n < M.length := by rw [← r.len]; exact hn
  have q := r.obs n _ p (List.getElem?_eq_getElem hl) (by rw [List.getElem?_eq_getElem hn, e1])
  cases ho : M[n] with
  | lst l => rw [ho] at q; obtain ⟨vs, q1, _⟩ := q; rw [hp] at q1; cases q1
  | dK l => rw [ho] at q; obtain ⟨vs, q1, _⟩ := q; rw [hp] at q1; cases q1
  | dT l => rw [ho] at q; obtain ⟨vs, q1, _⟩ := q; rw [hp] at q1; cases q1
  | lkK l => rw [ho] at q; obtain ⟨o, vs, q1, _⟩ := q; rw [hp] at q1; cases q1
  | lkT l => rw [ho] at q; obtain ⟨o, vs, q1, _⟩ := q; rw [hp] at q1; cases q1
/-- the inner reading of a list comprehension -/
theorem lc_go {wi : WI} {g : WG} {tt : WT} {te : WE} {vs : List Nat} {Y : Cx} {b' : Bool} {Q : VK} (hK : Y.K = X.K) (hcode : ∀ H, CodeOk X b H → CodeOk Y b' H) (h : liftL X T b (wLc vs wi g tt te) σ H Q) :
    tLc (liftI X T b wi) (liftG Y T b' vs g) (liftT Y T b' tt) (lift Y T b' te) vs σ H Q := by
  obtain ⟨ρ, env, M, R, rs, hw, p⟩ := h
  refine ⟨ρ, env, M, _, rs, hw, fun s M1 ρ1 H1 J h1 r1 s1 hJ => fun Dl hD => ?_⟩
  have c1 : CodeOk X b H1 := r1.c
  refine ⟨fun i m H' => ∃ ρ' M' acc accV, RelM X.K T ρ' H' M' ∧ Stp ρ1 H1 ρ' H' ∧ Dl ∉ ρ' ∧ H' Dl = some (.lst accV) ∧ Rps X.K ρ' H' acc accV ∧ m = s.items.length - i ∧ i ≤ s.items.length ∧ lcW vs s.ok g tt te env R (s.items.drop i) acc M',
    ⟨s.items.length, ρ1, M1, [], [], r1.m.ext (Ext3.new hD), (Ext3.new hD).stp, new_notin r1.m hD, upd_same, rfl, by omega, Nat.zero_le _, h1⟩, ?_⟩
  rintro i m H' ⟨ρ', M', acc, accV, r', s', nD, eD, ra, rfl, hle, hf⟩
  obtain ⟨j1, j2⟩ := hJ i ρ' H' M' s' r' (lcW_ok hf)
  by_cases hlt : i < s.items.length
  · rw [List.drop_eq_getElem_cons hlt] at hf
    obtain ⟨go, yl⟩ := j1 _ (List.getElem?_eq_getElem hlt)
    refine .inr ⟨go, fun H2 => ∃ ρ2 M2 acc accV, RelM X.K T ρ2 H2 M2 ∧ Stp ρ1 H1 ρ2 H2 ∧ Dl ∉ ρ2 ∧ H2 Dl = some (.lst accV) ∧ Rps X.K ρ2 H2 acc accV ∧ lcW vs s.ok g tt te env R (s.items.drop (i + 1)) acc M2, fun H2 ⟨ρ2, M2, acc, accV, q1, q2, q3, q4, q5, q6⟩ => ⟨s.items.length - (i + 1), by omega, ρ2, M2, acc, accV, q1, q2, q3, q4, q5, rfl, hlt, q6⟩, fun x H2 hy => ?_⟩
    obtain ⟨e2, rp⟩ := yl x H2 hy
    have s2 : Stp ρ1 H1 ρ' H2 := s'.trans e2.stp
    have rY : RelS Y T b' ρ' (wipe σ vs) H2 (wipeE env vs) M' := ⟨by rw [hK]; exact r'.ext e2, by rw [hK]; exact (r1.e.stp s2).wipe vs, hcode _ (c1.stp s2)⟩
    have eD2 : H2 Dl = some (.lst accV) := e2 _ _ eD
    refine ⟨ρ', wipeE env vs, M', _, s.items[i], rY, by rw [hK]; exact rp, hf.2, fun env3 M3 σ3 H3 ρ3 h3 r3 s3 k3 => ⟨k3.wipe.trans (wipe_idem σ vs), ?_⟩⟩
    refine liftT_go r3 h3 fun c M4 H4 ρ4 h4 r4 s4 => ?_
    obtain ⟨eD4, nD4⟩ := (s3.trans s4).oth Dl _ eD2 nD fun ps z => by cases z
    have s14 : Stp ρ1 H1 ρ4 H4 := s2.trans (s3.trans s4)
    have ra4 : Rps X.K ρ4 H4 acc accV := (ra.stp e2.stp).stp (s3.trans s4)
    cases c with
    | false => exact ⟨ρ4, M4, acc, accV, by rw [← hK]; exact r4.m, s14, nD4, eD4, ra4, h4⟩
    | true =>
      refine lift_go r4 h4 fun y M5 v H5 ρ5 h5 r5 s5 p5 => ?_
      obtain ⟨eD5, nD5⟩ := s5.oth Dl _ eD4 nD4 fun ps z => by cases z
      refine ⟨accV, eD5, by rw [ra.length]; exact h5.1, ρ5, M5, acc ++ [y], accV ++ [v], ?_, (s14.trans s5).apart hD eD5, nD5, upd_same, ?_, h5.2⟩
      · have q := r5.m
        rw [hK] at q
        exact q.apart nD5 eD5
      · rw [hK] at p5
        exact Rps.apart eD5 ((ra4.stp s5).append (Rps.one p5))
  · have hi : i = s.items.length := by omega
    subst hi
    rw [List.drop_length] at hf
    exact .inl ⟨j2 (Nat.le_refl _), p acc M' accV H' ρ' Dl hf.2 ⟨r', r1.e.stp s', c1.stp s'⟩ (s1.trans s') (s1.was0 (fun z => nD (s'.pre.subset (s1.pre.subset z))) hD) nD eD ra⟩
/-! another context that knows the same -/
section
variable {Y : Cx} {b' : Bool}
def SameR (X : Cx) (b : Bool) (Y : Cx) (b' : Bool) : Prop := X.K = Y.K ∧ ∀ H, CodeOk X b H ↔ CodeOk Y b' H
theorem SameR.to (h : SameR X b Y b') (r : RelS X T b ρ σ H env M) : RelS Y T b' ρ σ H env M := ⟨by rw [← h.1]; exact r.m, by rw [← h.1]; exact r.e, (h.2 H).mp r.c⟩
theorem SameR.symm (h : SameR X b Y b') : SameR Y b' X b := ⟨h.1.symm, fun H => (h.2 H).symm⟩
theorem SameR.e {w : WE} {Q : VK} (h : SameR X b Y b') (q : lift X T b w σ H Q) : lift Y T b' w σ H Q := by
  obtain ⟨ρ, env, M, R, rs, hw, p⟩ := q
  exact ⟨ρ, env, M, R, h.to rs, hw, fun d M' v H' ρ' h1 r1 s1 p1 => p d M' v H' ρ' h1 (h.symm.to r1) s1 (by rw [h.1]; exact p1)⟩
theorem SameR.t {w : WT} {Q : Bool → Hp → Prop} (h : SameR X b Y b') (q : liftT X T b w σ H Q) : liftT Y T b' w σ H Q := by
  obtain ⟨ρ, env, M, R, rs, hw, p⟩ := q
  exact ⟨ρ, env, M, R, h.to rs, hw, fun d M' H' ρ' h1 r1 s1 => p d M' H' ρ' h1 (h.symm.to r1) s1⟩
theorem SameR.g {vs : List Nat} {w : WG} {v : V} {Q : Sg → Hp → Prop} (h : SameR X b Y b') (q : liftG X T b vs w v σ H Q) : liftG Y T b' vs w v σ H Q := by
  obtain ⟨ρ, env, M, R, d, rs, rp, hw, p⟩ := q
  exact ⟨ρ, env, M, R, d, h.to rs, by rw [← h.1]; exact rp, hw, fun a c d e f h1 r1 s1 k1 => p a c d e f h1 (h.symm.to r1) s1 k1⟩
end
theorem same_blk {s : Shared} {H : Hp} {scope : Scope} {C : Addr} {cl : List (Str × Addr)} {fp : List Addr} : SameR (X.blk s H scope (compEnvC scope cl C X.env) fp) b X b :=
  ⟨rfl, fun H' => ⟨fun h hb => let ⟨c, P, h1, h2, h3⟩ := h hb; ⟨c, P, h1, h2, h3⟩, fun h hb => let ⟨c, P, h1, h2, h3⟩ := h hb; ⟨c, P, h1, h2, h3⟩⟩⟩
/-- [te for tg in iter if ..] -/
theorem q_lc {elt tg iter : Expr} {ifs : List Expr} {scope : Scope} {own : List (Str × Nat)} {pos : Pos} {wi : WI} {g : WG} {tt : WT} {te : WE} (hc : X.calm = true) (hN : X.N.Nodup) (hi : QI X T b tg iter wi) (ok : BlkOk X.N X.env.scope scope own)
    (hg : ∀ (s : Shared) (H : Hp) (C : Addr) (cl : List (Str × Addr)) (fp : List Addr), QG (X.blk s H scope (compEnvC scope cl C X.env) fp) T b (own.map (·.2)) tg g) (ht : ∀ (s : Shared) (H : Hp) (C : Addr) (cl : List (Str × Addr)) (fp : List Addr), QTs (X.blk s H scope (compEnvC scope cl C X.env) fp) T b ifs tt)
    (he : ∀ (s : Shared) (H : Hp) (C : Addr) (cl : List (Str × Addr)) (fp : List Addr), QE (X.blk s H scope (compEnvC scope cl C X.env) fp) T b elt te) (hs : ∀ x, foldedSetIterable iter X.env x = pure x := by intro _; rfl) :
    QL X T b (.ListComp elt [⟨tg, iter, ifs, 0⟩] scope pos) (wLc (own.map (·.2)) wi g tt te) :=
  ⟨PE.weak (pe_lc hc hN hi.pi ok (fun s H C cl fp => PG.weak (hg s H C cl fp).pg fun v σ H Q q => same_blk.symm.g q) (fun s H C cl fp => ⟨fun pins s' σ H' Q I q => (ht s H C cl fp).pts.run pins s' σ H' Q I (same_blk.symm.t q)⟩) (fun s H C cl fp => PE.weak (he s H C cl fp).pe fun σ H Q q => same_blk.symm.e q) hs) fun σ H Q h => lc_go (Y := X) rfl (fun _ h => h) h⟩

/-! ### lists that are made -/
theorem RelM.new {K : PySem.W.Frag} {p : Addr} {l : List D} {vs : List V} (r : RelM K T ρ H M) (hn : p ∉ ρ) (e : H p = some (.lst vs)) (rl : Rps K ρ H l vs) : RelM K T (ρ ++ [p]) H (M ++ [.lst l]) := by
  have pre : ρ <+: ρ ++ [p] := List.prefix_append _ _
  have s : Stp ρ H (ρ ++ [p]) H → True := fun _ => trivial
  refine ⟨List.nodup_append.mpr ⟨r.nd, List.nodup_cons.mpr ⟨by simp, List.nodup_nil⟩, fun a ha c hc z => ?_⟩, by rw [List.length_append, List.length_append, r.len]; rfl, fun n ob a h1 h2 => ?_, r.tabs⟩
  · rw [List.mem_singleton.mp hc] at z
    exact hn (z ▸ ha)
  · by_cases hl : n < M.length
    · rw [List.getElem?_append_left hl] at h1
      rw [List.getElem?_append_left (by rw [r.len]; exact hl)] at h2
      have q := r.obs n ob a h1 h2
      cases ob with
      | lst l => obtain ⟨vs, q1, q2⟩ := q; exact ⟨vs, q1, Rps.mono pre (fun _ _ h => h) (fun _ _ _ h => h) _ _ q2⟩
      | dK l => obtain ⟨vs, q1, q2⟩ := q; exact ⟨vs, q1, RpK.mono pre (fun _ _ h => h) (fun _ _ _ h => h) _ _ q2⟩
      | dT l => obtain ⟨vs, q1, q2⟩ := q; exact ⟨vs, q1, RpK.mono pre (fun _ _ h => h) (fun _ _ _ h => h) _ _ q2⟩
      | lkK l => obtain ⟨o, vs, q1, q2⟩ := q; exact ⟨o, vs, q1, RpK.mono pre (fun _ _ h => h) (fun _ _ _ h => h) _ _ q2⟩
      | lkT l => obtain ⟨o, vs, q1, q2⟩ := q; exact ⟨o, vs, q1, RpK.mono pre (fun _ _ h => h) (fun _ _ _ h => h) _ _ q2⟩
    · have hM : M.length ≤ n := Nat.not_lt.mp hl
      rw [List.getElem?_append_right hM] at h1
      rw [List.getElem?_append_right (by rw [r.len]; exact hM), r.len] at h2
      cases hk : n - M.length with
      | zero =>
        rw [hk] at h1 h2
        have h1 : Ob.lst l = ob := Option.some.inj h1
        have h2 : p = a := Option.some.inj h2
        subst h1 h2
        exact ⟨vs, e, Rps.mono pre (fun _ _ h => h) (fun _ _ _ h => h) _ _ rl⟩
      | succ j =>
        rw [hk] at h1
        simp at h1
theorem Stp.new {p : Addr} (s : Stp ρ H ρ' H') (hp : H p = none) : Stp ρ H (ρ' ++ [p]) H' :=
  ⟨s.pre.trans (List.prefix_append _ _), s.tup, s.tab, s.code, s.frz, fun a o h n => let ⟨n1, h1⟩ := s.oth0 a o h n; ⟨fun z => (List.mem_append.mp z).elim n1 fun z => (by
    rw [List.mem_singleton.mp z, hp] at h
    cases h), h1⟩⟩
theorem RelS.new {p : Addr} {l : List D} {vs : List V} (r : RelS X T b ρ σ H env M) (hn : p ∉ ρ) (e : H p = some (.lst vs)) (rl : Rps X.K ρ H l vs) : RelS X T b (ρ ++ [p]) σ H env (M ++ [.lst l]) :=
  ⟨r.m.new hn e rl, ⟨r.e.len, fun i d h => let ⟨v, h1, h2⟩ := r.e.at_ i d h; ⟨v, h1, Rp.mono (List.prefix_append _ _) (fun _ _ h => h) (fun _ _ _ h => h) _ _ h2⟩⟩, r.c⟩
/-- a new list stands in the memory -/
def wNew (w : WL) : WE := fun env M R => w env M fun ds M1 => R (.loc M1.length) (M1 ++ [.lst ds])
theorem q_new {e : Expr} {w : WL} (h : QL X T b e w) : QE X T b e (wNew w) := ⟨PE.weak h.pe fun σ H Q ⟨ρ, env, M, R, rs, hw, p⟩ => ⟨ρ, env, M, _, rs, hw, fun ds M' vs H' ρ' a h1 r1 s1 e0 n1 e1 rl => p _ _ _ H' (ρ' ++ [a]) h1 (r1.new n1 e1 rl) (s1.new e0) ⟨a, rfl, by rw [← r1.m.len, List.getElem?_append_right (Nat.le_refl _), Nat.sub_self]; rfl⟩⟩⟩
/-- [a, c, ..] -/
def wLst (w : WA) : WL := fun env M R => w env M fun ds M1 => ds.length ≤ sizeLine ∧ R ds M1
theorem q_lst {es : List Expr} {w : WA} {pos : Pos} (h : QA X T b es w) : QL X T b (.List es pos) (wLst w) :=
  ⟨PE.weak (pe_lst h.pa) fun σ H Q ⟨ρ, env, M, R, rs, hw, p⟩ => liftA_go rs hw fun ds M1 vs H1 ρ1 h1 r1 s1 p1 => by
    obtain ⟨hz, h1⟩ := h1
    refine ⟨by rw [p1.length]; exact hz, fun a ha => ?_⟩
    have e : Ext3 H1 (upd H1 a (.lst vs)) := Ext3.new ha
    have na := new_notin r1.m ha
    exact p ds M1 vs _ ρ1 a h1 (r1.ext e) (s1.trans e.stp) (s1.was0 (fun z => na (s1.pre.subset z)) ha) na upd_same (p1.stp e.stp)⟩
end
end R3
set_option Elab.async false
set_option linter.all false
set_option maxRecDepth 100000
set_option maxHeartbeats 2000000
namespace R3
open PySem PySem.Spec PyProof.Rows L2 Gx

section
variable {X : Cx} {T : List Addr} {b : Bool} {ρ ρ' : List Addr} {σ : Sg} {H H' : Hp} {env : Env3} {M : Mem}
/-- the same context with another code object -/
abbrev xc (X : Cx) (code : Value) : Cx := { X with env := { X.env with code := code } }
theorem same_gcx {A : Around} {s : Shared} {H : Hp} {scope : Scope} {C : Addr} {cl : List (Str × Addr)} {code : Value} {fp : List Addr} {go : List (Addr × Obj)} : SameR (gCx X A s H (gEnv X scope C cl code) fp go) b (xc X code) b :=
  ⟨rfl, fun H' => ⟨fun h hb => let ⟨c, P, h1, h2, h3⟩ := h hb; ⟨c, P, h1, h2, h3⟩, fun h hb => let ⟨c, P, h1, h2, h3⟩ := h hb; ⟨c, P, h1, h2, h3⟩⟩⟩
theorem ext_stp (e : ExtT H H') : Stp ρ H ρ H' :=
  ⟨List.prefix_refl _, fun a xs h => e.stay a _ h fun ps z => (by cases z), e.tabs, fun c a P h => e.stay c _ h codeH_ne, fun a o xs h => e.stay a _ h fun ps z => (by cases z), fun a o h n => ⟨n, by
    cases o with
    | tbl ps =>
      obtain ⟨ps', h'⟩ := e.grow a ps h
      exact .inr ⟨ps, ps', rfl, h'⟩
    | _ => exact .inl (e.stay a _ h fun ps z => (by cases z))⟩⟩
theorem RelM.extT {K : PySem.W.Frag} (e : ExtT H H') (r : RelM K T ρ H M) : RelM K T ρ H' M := by
  have s : Stp ρ H ρ H' := ext_stp e
  refine ⟨r.nd, r.len, fun n ob a h1 h2 => ?_, fun P hP => e.tabs P (r.tabs P hP)⟩
  have q := r.obs n ob a h1 h2
  cases ob with
  | lst l => obtain ⟨vs, q1, q2⟩ := q; exact ⟨vs, e.stay a _ q1 fun ps z => (by cases z), q2.stp s⟩
  | dK l => obtain ⟨vs, q1, q2⟩ := q; exact ⟨vs, e.stay a _ q1 fun ps z => (by cases z), q2.stp s⟩
  | dT l => obtain ⟨vs, q1, q2⟩ := q; exact ⟨vs, e.stay a _ q1 fun ps z => (by cases z), q2.stp s⟩
  | lkK l => obtain ⟨o, vs, q1, q2⟩ := q; exact ⟨o, vs, e.stay a _ q1 fun ps z => (by cases z), q2.stp s⟩
  | lkT l => obtain ⟨o, vs, q1, q2⟩ := q; exact ⟨o, vs, e.stay a _ q1 fun ps z => (by cases z), q2.stp s⟩
theorem lcW_len {vs : List Nat} {ok : Mem → Prop} {g : WG} {tt : WT} {te : WE} {R : List D → Mem → Prop} : True := trivial
/-- a generator expression -/
theorem gn_go {b' : Bool} {wi : WI} {g : WG} {tt : WT} {te : WE} {vs : List Nat} {R : List D → Mem → Prop} {Q : List V → Hp → Prop} (rs : RelS X T true ρ σ H env M) (hw : wLc vs wi g tt te env M R) (p : PostA X T true ρ σ H env R Q) :
    tGx X (liftI X T true wi) (liftG X T false vs g) (liftT X T false tt) (fun code => lift (xc X code) T b' te) vs NoFin GoLen (fun ys H' => ys.length ≤ sizeLine ∧ Q ys H') σ H := by
  refine ⟨ρ, env, M, _, rs, hw, fun s M1 ρ1 H1 J h1 r1 s1 hJ => ?_⟩
  obtain ⟨c, P, hC⟩ := r1.c rfl
  refine ⟨c, P, hC, fun c' P' H2 ex hc' hT' => ?_⟩
  have st2 : Stp ρ1 H1 ρ1 H2 := ext_stp ex
  have code2 : CodeOk (xc X (.ref c')) b' H2 := fun _ => ⟨c', P', rfl, .inr hc', hT'⟩
  refine ⟨fun i m ys H' => ∃ ρ' M' acc, RelM X.K T ρ' H' M' ∧ Stp ρ1 H2 ρ' H' ∧ Rps X.K ρ' H' acc ys ∧ acc.length ≤ sizeLine ∧ m = s.items.length - i ∧ i ≤ s.items.length ∧ lcW vs s.ok g tt te env R (s.items.drop i) acc M',
    ⟨s.items.length, ρ1, M1, [], r1.m.extT ex, Stp.refl _ _, rfl, Nat.zero_le _, by omega, Nat.zero_le _, h1⟩, ?_⟩
  rintro i m ys H' ⟨ρ', M', acc, r', s', ra, hz, rfl, hle, hf⟩
  obtain ⟨j1, j2⟩ := hJ i ρ' H' M' (st2.trans s') r' (lcW_ok hf)
  by_cases hlt : i < s.items.length
  · rw [List.drop_eq_getElem_cons hlt] at hf
    obtain ⟨go, yl⟩ := j1 _ (List.getElem?_eq_getElem hlt)
    refine .inr ⟨go, fun ys H3 => ∃ ρ3 M3 acc, RelM X.K T ρ3 H3 M3 ∧ Stp ρ1 H2 ρ3 H3 ∧ Rps X.K ρ3 H3 acc ys ∧ acc.length ≤ sizeLine ∧ lcW vs s.ok g tt te env R (s.items.drop (i + 1)) acc M3, fun ys H3 ⟨ρ3, M3, acc, q1, q2, q3, q4, q5⟩ => ⟨s.items.length - (i + 1), by omega, ρ3, M3, acc, q1, q2, q3, q4, rfl, hlt, q5⟩, fun x H3 hy => ?_⟩
    obtain ⟨e3, rp⟩ := yl x H3 hy
    have s3 : Stp ρ1 H2 ρ' H3 := s'.trans e3.stp
    have rY : RelS X T false ρ' (wipe σ vs) H3 (wipeE env vs) M' := ⟨r'.ext e3, (r1.e.stp (st2.trans s3)).wipe vs, fun z => (by cases z)⟩
    refine ⟨ρ', wipeE env vs, M', _, s.items[i], rY, rp, hf.2, fun env4 M4 σ4 H4 ρ4 h4 r4 s4 k4 => ⟨k4.wipe.trans (Gx.wipe_idem σ vs), ?_⟩⟩
    refine liftT_go r4 h4 fun c M5 H5 ρ5 h5 r5 s5 => ?_
    have s15 : Stp ρ1 H2 ρ5 H5 := s3.trans (s4.trans s5)
    have ra5 : Rps X.K ρ5 H5 acc ys := (ra.stp e3.stp).stp (s4.trans s5)
    cases c with
    | false => exact ⟨ρ5, M5, acc, r5.m, s15, ra5, hz, h5⟩
    | true =>
      have rC : RelS (xc X (.ref c')) T b' ρ5 σ4 H5 env4 M5 := ⟨r5.m, r5.e, code2.stp s15⟩
      refine lift_go rC h5 fun y M6 v H6 ρ6 h6 r6 s6 p6 => .inr ⟨by show ys.length < sizeLine; rw [ra5.length]; exact h6.1, ρ6, M6, acc ++ [y], r6.m, s15.trans s6, (ra5.stp s6).append (Rps.one p6), ?_, h6.2⟩
      rw [List.length_append]
      exact h6.1
  · have hi : i = s.items.length := by omega
    subst hi
    rw [List.drop_length] at hf
    refine .inl ⟨j2 (Nat.le_refl _), by rw [ra.length]; exact hz, p acc M' ys H' ρ' hf.2 ⟨r', r1.e.stp (st2.trans s'), r1.c.stp (st2.trans s')⟩ (s1.trans (st2.trans s')) ra⟩
/-- an expression whose value is walked whole: its items -/
structure QC (X : Cx) (T : List Addr) (b : Bool) (k : Nat) (e : Expr) (w : WA) : Prop where
  co : PCo X k e (liftA X T b w)
/-- a generator expression as an argument -/
structure QGn (X : Cx) (T : List Addr) (k : Nat) (e : Expr) (w : WA) : Prop where
  gm : ∃ t : TGm, PGm X k e t ∧ ∀ (σ : Sg) (H : Hp) (ρ : List Addr) (env : Env3) (M : Mem) (R : List D → Mem → Prop) (Q : List V → Hp → Prop), RelS X T true ρ σ H env M → w env M R → PostA X T true ρ σ H env R Q → t NoFin GoLen (fun ys H' => ys.length ≤ sizeLine ∧ Q ys H') σ H
theorem q_gen {k k' : Nat} {b' : Bool} {elt tg iter : Expr} {ifs : List Expr} {scope : Scope} {gpos : Pos} {own : List (Str × Nat)} {wi : WI} {g : WG} {tt : WT} {te : WE} (hr : Room k' X.A) (hN : X.N.Nodup) (hbm : BuiltM X.base X.mg) (hi : QI X T true tg iter wi) (ok : BlkOk X.N X.env.scope scope own)
    (hg : ∀ (A : Around) (s : Shared) (H : Hp) (C : Addr) (cl : List (Str × Addr)) (code : Value) (fp : List Addr) (go : List (Addr × Obj)), Room k A → QG (gCx X A s H (gEnv X scope C cl code) fp go) T false (own.map (·.2)) tg g)
    (ht : ∀ (A : Around) (s : Shared) (H : Hp) (C : Addr) (cl : List (Str × Addr)) (code : Value) (fp : List Addr) (go : List (Addr × Obj)), Room k A → QTs (gCx X A s H (gEnv X scope C cl code) fp go) T false ifs tt)
    (he : ∀ (A : Around) (s : Shared) (H : Hp) (C : Addr) (cl : List (Str × Addr)) (code : Value) (fp : List Addr) (go : List (Addr × Obj)), Room k A → QE (gCx X A s H (gEnv X scope C cl code) fp go) T b' elt te)
    (hk : k + 2 ≤ k' := by decide) (hco : scope.isCoroutine = false := by rfl) (h0 : scope.names.lookup (".0" : Str) = some NameKind.local := by rfl) (hs : ∀ v, genFold iter X.env v = pure v := by intro _; rfl) :
    QGn X T k (.GeneratorExp elt [⟨tg, iter, ifs, 0⟩] scope gpos) (wLc (own.map (·.2)) wi g tt te) := by
  have sf : ∀ {A : Around} {s : Shared} {H : Hp} {C : Addr} {cl : List (Str × Addr)} {code : Value} {fp : List Addr} {go : List (Addr × Obj)}, SameR X false (gCx X A s H (gEnv X scope C cl code) fp go) false := ⟨rfl, fun H => ⟨fun _ z => (by cases z), fun _ z => (by cases z)⟩⟩
  refine ⟨⟨_, pgm (wi := liftI X T true wi) (g := liftG X T false (own.map (·.2)) g) (tt := liftT X T false tt) (te := fun code => lift (xc X code) T b' te) (hr.mono hk) hN hbm hco ok h0 hi.pi (fun A s H C cl code fp go r => PG.weak (hg A s H C cl code fp go r).pg fun v σ H' Q q => sf.g q)
    (fun A s H C cl code fp go r => ⟨fun pins s' σ H' Q I q => (ht A s H C cl code fp go r).pts.run pins s' σ H' Q I (sf.t q)⟩) (fun A s H C cl code fp go r => PE.weak (he A s H C cl code fp go r).pe fun σ H' Q q => same_gcx.symm.e q) hs, fun σ H ρ env M R Q rs hw p => gn_go rs hw p⟩⟩
theorem QGn.co {k : Nat} {e : Expr} {w : WA} (h : QGn X T k e w) : QC X T true (k + 2) e w := by
  obtain ⟨t, h1, h2⟩ := h.gm
  exact ⟨⟨fun pins s σ H Q I ⟨ρ, env, M, R, rs, hw, p⟩ => (pco_gen h1).run pins s σ H Q I (h2 σ H ρ env M R Q rs hw p)⟩⟩
/-- tuple(e), e a generator expression -/
def wTupL (w : WA) : WE := fun env M R => w env M fun ds M1 => R (.tup ds) M1
theorem q_tupG {k k' : Nat} {e : Expr} {w : WA} {p pos : Pos} (h : QGn X T k e w) (hr : Room k' X.A) (hg : Gl X "tuple") (hm : X.mg "tuple" = none) (hk : k + 4 ≤ k' := by decide) (he : starEach [e] X.env = (false, eval e X.env) :: starEach [] X.env := by rfl) : QE X T true (.Call (.Name "tuple" p) [e] [] pos) (wTupL w) := by
  obtain ⟨t, h1, h2⟩ := h.gm
  refine ⟨PE.weak (pe_tupleG h1 (hr.mono hk) hg hm he) fun σ H Q ⟨ρ, env, M, R, rs, hw, p⟩ => h2 σ H ρ env M _ _ rs hw fun ds M' vs H' ρ' hR r1 s1 p1 => fun a ha => ?_⟩
  have e : Ext3 H' (upd H' a (.tup vs)) := Ext3.new ha
  exact p _ M' _ _ ρ' hR (r1.ext e) (s1.trans e.stp) ⟨a, vs, rfl, .inl upd_same, p1.stp e.stp⟩
/-- a list is walked whole -/
theorem QL.co {k : Nat} {e : Expr} {w : WL} (h : QL X T b e w) : QC X T b k e w :=
  ⟨⟨fun pins s σ H Q I ⟨ρ, env, M, R, rs, hw, p⟩ => (pco_list h.pe).run pins s σ H Q I ⟨ρ, env, M, R, rs, hw, fun ds M' vs H' ρ' a h1 r1 s1 e0 n1 e1 rl => ⟨a, vs, rfl, .inl (.inl e1), p ds M' vs H' ρ' h1 r1 s1 rl⟩⟩⟩⟩
/-- sorted(e), ints -/
def wSortI (w : WA) : WL := fun env M R => w env M fun ds M1 => ∃ ns : List Int, ds = ns.map D.int ∧ ∀ ns' : List Int, ns'.Perm ns → ns'.Pairwise (· ≤ ·) → R (ns'.map D.int) M1
theorem q_sortI {k k' : Nat} {e : Expr} {w : WA} {p pos : Pos} (h : QC X T b k e w) (hr : Room k' X.A) (hg : Gl X "sorted") (hm : X.mg "sorted" = none) (hk : k + 1 ≤ k' := by decide) (he : starEach [e] X.env = (false, eval e X.env) :: starEach [] X.env := by rfl) : QL X T b (.Call (.Name "sorted" p) [e] [] pos) (wSortI w) :=
  ⟨PE.weak (pe_sortedI h.co (hr.mono hk) hg hm he) fun σ H Q ⟨ρ, env, M, R, rs, hw, p⟩ => liftA_go rs hw fun ds M' vs H' ρ' hR r1 s1 p1 => by
    obtain ⟨ns, rfl, hR⟩ := hR
    refine ⟨ns, p1.ints, fun ns' a hp hs ha => ?_⟩
    have e : Ext3 H' (upd H' a (.lst (ns'.map V.int))) := Ext3.new ha
    have na := new_notin r1.m ha
    exact p _ M' _ _ ρ' a (hR ns' hp hs) (r1.ext e) (s1.trans e.stp) (s1.was0 (fun z => na (s1.pre.subset z)) ha) na upd_same (Rps.of_ints ns')⟩
/-- tuple(e), e a new list -/
theorem q_tupL {e : Expr} {w : WL} {p pos : Pos} (h : QL X T b e w) (hg : Gl X "tuple") (hm : X.mg "tuple" = none) (na : starEach [e] X.env = (false, eval e X.env) :: starEach [] X.env := by rfl) : QE X T b (.Call (.Name "tuple" p) [e] [] pos) (wTupL w) :=
  ⟨PE.weak (pe_tupleOf hg hm h.pe na) fun σ H Q ⟨ρ, env, M, R, rs, hw, p⟩ => ⟨ρ, env, M, _, rs, hw, fun ds M' vs H' ρ' a hR r1 s1 e0 n1 e1 rl => .inl ⟨a, vs, rfl, .inl (.inl e1), fun q hq => by
    have e : Ext3 H' (upd H' q (.tup vs)) := Ext3.new hq
    exact p _ M' _ _ ρ' hR (r1.ext e) (s1.trans e.stp) ⟨q, vs, rfl, .inl upd_same, rl.stp e.stp⟩⟩⟩⟩
end
end R3
set_option Elab.async false
set_option linter.all false
set_option maxRecDepth 100000
set_option maxHeartbeats 4000000
/-! tuple * 1: the tuple itself. -/
namespace Gx
open PySem PySem.Spec PyProof.Rows L2
theorem tuple_mulW1 (l : Addr) (items : Array Value) (n : Nat) (dd : Option Addr) (sl : Array (Option Value)) (u : Tok) :
    Meets (Builtin.«tuple.__mul__» ⟨[.ref l, .int 1 u], []⟩) (fun _ R s => s.heap.get? l = some { cls := .type "tuple", dict := dd, data := .seq items n, slots := sl } ∧
      R (.ok (.ret (Value.ref l))) s) :=
  .of_wp fun prog w A R s h => by
    obtain ⟨hp, g, d, tk, os⟩ := s
    obtain ⟨hl, h⟩ := h
    have f1 := AutoSeq1.idx_int
    have c1 : (items.isEmpty || ((1 : Int) == 1)) = true := by simp
    wp_walk using wpAny_loadPart' hl
    repeat (first
      | (refine wpAny_ite_false (by decide) ?_; wp_walk using wpAny_loadPart' hl)
      | (refine wpAny_ite_true (decide_eq_true (by simp)) ?_; wp_walk using wpAny_loadPart' hl))
    exact ⟨_, rfl, h⟩
theorem op_repT1 {X : Cx} : OpR X (binaryOp .Mult) (fun x y H Q => ∃ l xs, x = .ref l ∧ y = .int 1 ∧ SqT X.K H l xs ∧ Q (.ref l) H) := by
  intro pins s σ H x y v u Q I rx ry h
  obtain ⟨l, xs, rfl, rfl, hT, q⟩ := h
  cases rx
  obtain ⟨t, rfl⟩ := ry
  obtain ⟨its, r, ⟨⟨cls, dd, data, sl⟩, ho, hc, n, hd⟩, hs⟩ := I.tuple hT
  simp only at hc hd
  subst hc hd
  refine wpAny_binaryOp_repeat_ref (T := "tuple") (U := "int") (by decide) ⟨_, ho, rfl⟩ (fun s' => typeIs_int s' 1 t) noFill_tuple_mul F.fills_int_mul F.slot_int_rmul repeat_tuple F.slot_int_index.lookup
    (call_meets F.slot_int_rmul (typeIs_int s 1 t) F.entry_int_rmul (F.args_int_rmul_2 _ _) (int_rmul_tuple 1 t l its.toArray n dd sl)
      ⟨ho, rfl, ⟨_, ho, rfl⟩, call_meets F.slot_tuple_mul ⟨_, ho, rfl⟩ F.entry_tuple_mul (F.args_tuple_mul_2 _ _) (tuple_mulW1 l its.toArray n dd sl t) ⟨ho, ?_⟩⟩)
  exact ⟨.ref l, H, I, rfl, q⟩
end Gx
set_option Elab.async false
set_option linter.all false
set_option maxRecDepth 100000
set_option maxHeartbeats 2000000
namespace R3
open PySem PySem.Spec PyProof.Rows L2 Gx

section
variable {X : Cx} {T : List Addr} {b : Bool} {ρ ρ' : List Addr} {σ : Sg} {H H' : Hp} {env : Env3} {M : Mem}
/-! ### operators over ints -/
def oI (C : Int → Int → Prop) (g : Int → Int → Int) : RO := fun x y M R => match x, y with
  | .int i, .int j => C i j ∧ R (.int (g i j)) M
  | _, _ => False
def oI0 (g : Int → Int → Int) : RO := fun x y M R => match x, y with
  | .int i, .int j => R (.int (g i j)) M
  | _, _ => False
def oIB (g : Int → Int → Bool) : RO := fun x y M R => match x, y with
  | .int i, .int j => R (.bl (g i j)) M
  | _, _ => False
theorem opc_i {C : Int → Int → Prop} {g : Int → Int → Int} : OpC X T b (rI C fun i j => .int (g i j)) (oI C g) := fun ρ σ H env M d1 d2 v1 v2 R Q rs p1 p2 h p => by
  cases d1 with
  | int i => cases d2 with
    | int j => exact ⟨i, j, p1, p2, h.1, p _ M _ H ρ h.2 rs (Stp.refl _ _) rfl⟩
    | _ => exact h.elim
  | _ => exact h.elim
theorem opc_i0 {g : Int → Int → Int} : OpC X T b (rI0 fun i j => .int (g i j)) (oI0 g) := fun ρ σ H env M d1 d2 v1 v2 R Q rs p1 p2 h p => by
  cases d1 with
  | int i => cases d2 with
    | int j => exact ⟨i, j, p1, p2, p _ M _ H ρ h rs (Stp.refl _ _) rfl⟩
    | _ => exact h.elim
  | _ => exact h.elim
theorem opc_ib {g : Int → Int → Bool} : OpC X T b (rI0 fun i j => .bl (g i j)) (oIB g) := fun ρ σ H env M d1 d2 v1 v2 R Q rs p1 p2 h p => by
  cases d1 with
  | int i => cases d2 with
    | int j => exact ⟨i, j, p1, p2, p _ M _ H ρ h rs (Stp.refl _ _) rfl⟩
    | _ => exact h.elim
  | _ => exact h.elim
variable {a c : Expr} {wa wc : WE} {pos : Pos}
def oSub : RO := oI0 fun i j => i - j
def oDiv : RO := oI CDivW fun i j => i / j
def oMod : RO := oI (fun _ j => j ≠ 0) fun i j => Int.fmod i j
def oPow : RO := oI CPow fun i j => i ^ j.toNat
theorem q_sub (ha : QE X T b a wa) (hc : QE X T b c wc) : QE X T b (.BinOp a .Sub c pos) (wBin oSub wa wc) := q_op op_sub opc_i0 ha hc
theorem q_div (ha : QE X T b a wa) (hc : QE X T b c wc) : QE X T b (.BinOp a .FloorDiv c pos) (wBin oDiv wa wc) := q_op op_fdivW opc_i ha hc
theorem q_mod (ha : QE X T b a wa) (hc : QE X T b c wc) : QE X T b (.BinOp a .Mod c pos) (wBin oMod wa wc) := q_op op_modN opc_i ha hc
theorem q_pow (ha : QE X T b a wa) (hc : QE X T b c wc) : QE X T b (.BinOp a .Pow c pos) (wBin oPow wa wc) := q_op op_pow opc_i ha hc
/-- +: ints, texts, tuples -/
def oAdd : RO := fun x y M R => match x, y with
  | .int i, .int j => R (.int (i + j)) M
  | .str i, .str j => i.length + j.length ≤ sizeLine ∧ R (.str (i ++ j)) M
  | .tup l, .tup m => l.length + m.length ≤ sizeLine ∧ R (.tup (l ++ m)) M
  | _, _ => False
theorem rp_newtup {l : List D} {vs : List V} {p : Addr} {R : D → Mem → Prop} {Q : VK} (rs : RelS X T b ρ σ H env M) (post : Post X T b ρ σ H env R Q) (h : R (.tup l) M) (rp : Rps X.K ρ H l vs) (hp : H p = none) : Q (.ref p) (upd H p (.tup vs)) := by
  have e : Ext3 H (upd H p (.tup vs)) := Ext3.new hp
  exact post _ M _ _ ρ h (rs.ext e) e.stp ⟨p, vs, rfl, .inl upd_same, rp.stp e.stp⟩
theorem q_add (ha : QE X T b a wa) (hc : QE X T b c wc) : QE X T b (.BinOp a .Add c pos) (wBin oAdd wa wc) :=
  q_op (OpR.or op_add (OpR.or op_add_str op_catA)) (fun ρ σ H env M d1 d2 v1 v2 R Q rs p1 p2 h p => by
    cases d1 with
    | int i => cases d2 with
      | int j => exact .inl ⟨i, j, p1, p2, p _ M _ H ρ h rs (Stp.refl _ _) rfl⟩
      | _ => exact h.elim
    | str i => cases d2 with
      | str j => exact .inr (.inl ⟨i, j, p1, p2, h.1, p _ M _ H ρ h.2 rs (Stp.refl _ _) rfl⟩)
      | _ => exact h.elim
    | tup l => cases d2 with
      | tup m =>
        obtain ⟨a1, vs, e1, t1, r1⟩ := p1
        obtain ⟨a2, us, e2, t2, r2⟩ := p2
        refine .inr (.inr ⟨a1, a2, vs, us, e1, e2, t1.sq, t2.sq, by rw [r1.length, r2.length]; exact h.1, fun z => ?_, fun _ z => ?_, fun _ _ q hq => ?_⟩)
        · subst z
          have hl : l = [] := List.eq_nil_of_length_eq_zero (by rw [← r1.length]; rfl)
          subst hl
          exact p _ M _ H ρ h.2 rs (Stp.refl _ _) ⟨a2, us, rfl, t2, r2⟩
        · subst z
          have hl : m = [] := List.eq_nil_of_length_eq_zero (by rw [← r2.length]; rfl)
          subst hl
          have h2 : R (.tup (l ++ [])) M := h.2
          rw [List.append_nil] at h2
          exact p _ M _ H ρ h2 rs (Stp.refl _ _) ⟨a1, vs, rfl, t1, r1⟩
        · exact rp_newtup rs p h.2 (r1.append r2) hq
      | _ => exact h.elim
    | _ => exact h.elim) ha hc
/-- *: ints; a tuple with an int from 2 on -/
def oMul : RO := fun x y M R => match x, y with
  | .int i, .int j => CMulW i j ∧ R (.int (i * j)) M
  | .tup l, .int j => (j = 1 ∧ R (.tup l) M) ∨ ((l ≠ [] ∧ 2 ≤ j ∧ j ≤ 1000 ∧ l.length ≤ 1000) ∧ R (.tup (List.replicate j.toNat l).flatten) M)
  | _, _ => False
theorem Rps.rep {l : List D} {vs : List V} (r : Rps X.K ρ H l vs) : ∀ n : Nat, Rps X.K ρ H (List.replicate n l).flatten (List.replicate n vs).flatten
  | 0 => rfl
  | n + 1 => by
    rw [List.replicate_succ, List.replicate_succ, List.flatten_cons, List.flatten_cons]
    exact r.append (Rps.rep r n)
theorem q_mul (ha : QE X T b a wa) (hc : QE X T b c wc) : QE X T b (.BinOp a .Mult c pos) (wBin oMul wa wc) :=
  q_op (OpR.or op_mulW (OpR.or op_repT Gx.op_repT1)) (fun ρ σ H env M d1 d2 v1 v2 R Q rs p1 p2 h p => by
    cases d1 with
    | int i => cases d2 with
      | int j => exact .inl ⟨i, j, p1, p2, h.1, p _ M _ H ρ h.2 rs (Stp.refl _ _) rfl⟩
      | _ => exact h.elim
    | tup l => cases d2 with
      | int j =>
        obtain ⟨a1, vs, e1, t1, r1⟩ := p1
        rcases h with ⟨rfl, h⟩ | ⟨⟨h1, h2, h3, h4⟩, h5⟩
        · exact .inr (.inr ⟨a1, vs, e1, p2, t1.sq, p _ M _ H ρ h rs (Stp.refl _ _) ⟨a1, vs, rfl, t1, r1⟩⟩)
        · exact .inr (.inl ⟨a1, j, vs, e1, p2, t1.sq, fun z => h1 (List.eq_nil_of_length_eq_zero (by rw [← r1.length, z]; rfl)), h2, h3, by rw [r1.length]; exact h4, fun q hq => rp_newtup rs p h5 (r1.rep _) hq⟩)
      | _ => exact h.elim
    | _ => exact h.elim) ha hc
def wNeg (w : WE) : WE := fun env M R => w env M fun d M1 => match d with
  | .int i => R (.int (-i)) M1
  | _ => False
theorem q_neg (ha : QE X T b a wa) : QE X T b (.UnaryOp .USub a pos) (wNeg wa) := ⟨PE.weak (pe_un un_neg ha.pe) fun σ H Q ⟨ρ, env, M, R, rs, hw, p⟩ => lift_go rs hw fun d M1 v H1 ρ1 h1 r1 s1 p1 => by
  cases d with
  | int i => exact ⟨i, p1, p _ M1 _ H1 ρ1 h1 r1 s1 rfl⟩
  | _ => exact h1.elim⟩
def oLt : RO := oIB fun i j => decide (i < j)
def oLe : RO := oIB fun i j => decide (i ≤ j)
def oGt : RO := oIB fun i j => decide (j < i)
def oGe : RO := oIB fun i j => decide (j ≤ i)

/-! ### == -/
mutual
/-- data alone -/
def D.py : D → Option PyData
  | .non => some .none
  | .bl k => some (.bool k)
  | .int i => some (.int i)
  | .str x => some (.str x)
  | .tup l => (D.pys l).map .tuple
  | .loc _ => none
  | .rol l => (D.pys l).map .list
def D.pys : List D → Option (List PyData)
  | [] => some []
  | d :: ds => match d.py, D.pys ds with
    | some p, some ps => some (p :: ps)
    | _, _ => none
end
mutual
theorem Rp.dp : ∀ (d : D) (v : V) (p : PyData), Rp X.K ρ H d v → d.py = some p → Dp X.K H v p
  | .non, v, p, h, e => by
    rw [show v = .non from h]
    unfold D.py at e
    cases e
    exact .non
  | .bl k, v, p, h, e => by
    rw [show v = .bl k from h]
    unfold D.py at e
    cases e
    exact .bl k
  | .int k, v, p, h, e => by
    rw [show v = .int k from h]
    unfold D.py at e
    cases e
    exact .int k
  | .str k, v, p, h, e => by
    rw [show v = .str k from h]
    unfold D.py at e
    cases e
    exact .str k
  | .loc k, v, p, h, e => by
    unfold D.py at e
    cases e
  | .tup l, v, p, h, e => by
    obtain ⟨a, vs, ev, t, r⟩ := h
    unfold D.py at e
    obtain ⟨ps, e1, e2⟩ := Option.map_eq_some_iff.mp e
    subst e2 ev
    exact .tup t.sq (Rps.dp l vs ps r e1)
  | .rol l, v, p, h, e => by
    obtain ⟨a, vs, ev, t, r⟩ := h
    unfold D.py at e
    obtain ⟨ps, e1, e2⟩ := Option.map_eq_some_iff.mp e
    subst e2 ev
    exact .lst t.sq (Rps.dp l vs ps r e1)
theorem Rps.dp : ∀ (ds : List D) (vs : List V) (ps : List PyData), Rps X.K ρ H ds vs → D.pys ds = some ps → DpAll X.K H vs ps
  | [], vs, ps, h, e => by
    rw [show vs = [] from h]
    unfold D.pys at e
    cases e
    exact .nil
  | d :: ds, vs, ps, h, e => by
    obtain ⟨v, r, ev, h1, h2⟩ := h
    subst ev
    unfold D.pys at e
    split at e
    · rename_i p qs e1 e2
      cases e
      exact .cons (Rp.dp d v p h1 e1) (Rps.dp ds r qs h2 e2)
    · cases e
end
def D.eqs (k : Bool) (x y : D) (M : Mem) (R : D → Mem → Prop) : Prop := ∃ p q, x.py = some p ∧ y.py = some q ∧ SeqAt.shaped p = true ∧ SeqAt.shaped q = true ∧ R (.bl (xor k (PyData.eqv p q))) M
/-- == (k = false), != (k = true) -/
def oEqK (k : Bool) : RO := fun x y M R => match x, y with
  | .int i, .int j => R (.bl (xor k (decide (i = j)))) M
  | .str i, .str j => R (.bl (xor k (decide (i = j)))) M
  | .bl i, .bl j => R (.bl (xor k (decide (i = j)))) M
  | .non, .non => R (.bl (xor k true)) M
  | .non, .int _ => R (.bl k) M
  | .int _, .non => R (.bl k) M
  | .non, .str _ => R (.bl k) M
  | .str _, .non => R (.bl k) M
  | x, y => D.eqs k x y M R
def oEq : RO := oEqK false
def oNe : RO := oEqK true
theorem opc_eqs {k : Bool} {d1 d2 : D} {v1 v2 : V} {R : D → Mem → Prop} {Q : VK} {r : R2} (hr : ∀ x y H Q, (∃ d e, Dp X.K H x d ∧ Dp X.K H y e ∧ SeqAt.shaped d = true ∧ SeqAt.shaped e = true ∧ Q (.bl (xor k (PyData.eqv d e))) H) → r x y H Q)
    (rs : RelS X T b ρ σ H env M) (p1 : Rp X.K ρ H d1 v1) (p2 : Rp X.K ρ H d2 v2) (h : D.eqs k d1 d2 M R) (p : Post X T b ρ σ H env R Q) : r v1 v2 H Q := by
  obtain ⟨x, y, e1, e2, s1, s2, hR⟩ := h
  exact hr _ _ _ _ ⟨x, y, p1.dp _ _ _ e1, p2.dp _ _ _ e2, s1, s2, p _ M _ H ρ hR rs (Stp.refl _ _) rfl⟩
theorem opc_eq {k : Bool} {r r' : R2} (hr : ∀ x y H Q, (∃ d e, Dp X.K H x d ∧ Dp X.K H y e ∧ SeqAt.shaped d = true ∧ SeqAt.shaped e = true ∧ Q (.bl (xor k (PyData.eqv d e))) H) → r x y H Q)
    (hr' : ∀ x y H Q, (scal x y = true ∧ Q (.bl (xor k (decide (x = y)))) H) → r' x y H Q) : OpC X T b (fun x y H Q => r' x y H Q ∨ r x y H Q) (oEqK k) := fun ρ σ H env M d1 d2 v1 v2 R Q rs p1 p2 h p => by
  have sc : ∀ {u1 u2 : V} {d : Bool}, v1 = u1 → v2 = u2 → scal u1 u2 = true → decide (u1 = u2) = d → R (.bl (xor k d)) M → r' v1 v2 H Q ∨ r v1 v2 H Q := fun e1 e2 e3 e4 hR => by
    subst e1 e2
    subst e4
    exact .inl (hr' _ _ _ _ ⟨e3, p _ M _ H ρ hR rs (Stp.refl _ _) rfl⟩)
  unfold oEqK at h
  split at h
  · exact sc p1 p2 rfl (decide_eq_decide.mpr (by simp)) h
  · exact sc p1 p2 rfl (decide_eq_decide.mpr (by simp)) h
  · exact sc p1 p2 rfl (decide_eq_decide.mpr (by simp)) h
  · exact sc p1 p2 rfl (decide_eq_true rfl) h
  · exact sc (d := false) p1 p2 rfl (decide_eq_false (fun z => nomatch z)) (by rw [Bool.xor_false]; exact h)
  · exact sc (d := false) p1 p2 rfl (decide_eq_false (fun z => nomatch z)) (by rw [Bool.xor_false]; exact h)
  · exact sc (d := false) p1 p2 rfl (decide_eq_false (fun z => nomatch z)) (by rw [Bool.xor_false]; exact h)
  · exact sc (d := false) p1 p2 rfl (decide_eq_false (fun z => nomatch z)) (by rw [Bool.xor_false]; exact h)
  · exact .inr (opc_eqs hr rs p1 p2 h p)
theorem or_cmp {f : Value → Value → Sem Value} {r r' : R2} (h : OpR X f r) (h' : OpR X f r') : OpR X f fun x y H Q => r x y H Q ∨ r' x y H Q := OpR.or h h'
theorem eqK_false {X : Cx} : OpC X T b (fun x y H Q => rEq x y H Q ∨ rEqD X.K x y H Q) oEq :=
  opc_eq (k := false) (fun x y H Q ⟨d, e, h1, h2, h3, h4, h5⟩ => ⟨d, e, h1, h2, h3, h4, by rw [Bool.false_xor] at h5; exact h5⟩) fun x y H Q ⟨h1, h2⟩ => ⟨h1, by rw [Bool.false_xor] at h2; exact h2⟩
theorem eqK_true {X : Cx} : OpC X T b (fun x y H Q => rNe x y H Q ∨ rNeD X.K x y H Q) oNe :=
  opc_eq (k := true) (fun x y H Q ⟨d, e, h1, h2, h3, h4, h5⟩ => ⟨d, e, h1, h2, h3, h4, by rw [Bool.true_xor] at h5; exact h5⟩) fun x y H Q ⟨h1, h2⟩ => ⟨h1, by rw [Bool.true_xor] at h2; exact h2⟩
/-! comparisons as tests and as values -/
theorem q_eqT {k : Nat} (hr : Room k X.A) (ha : QE X T b a wa) (hc : QE X T b c wc) (hm : behindInMarks .Eq c = false := by first | exact nomark _ | rfl) : QT X T b (.Compare a [.Eq] [c] pos) (wTst (wBin oEq wa wc)) := q_cmpT (or_cmp op_eq (op_eqD hr.units)) eqK_false ha hc hm
theorem q_neT {k : Nat} (hr : Room k X.A) (ha : QE X T b a wa) (hc : QE X T b c wc) (hm : behindInMarks .NotEq c = false := by first | exact nomark _ | rfl) : QT X T b (.Compare a [.NotEq] [c] pos) (wTst (wBin oNe wa wc)) := q_cmpT (or_cmp op_ne (op_neD hr.units)) eqK_true ha hc hm
theorem q_eqE {k : Nat} (hr : Room k X.A) (ha : QE X T b a wa) (hc : QE X T b c wc) (hm : behindInMarks .Eq c = false := by first | exact nomark _ | rfl) : QE X T b (.Compare a [.Eq] [c] pos) (wBin oEq wa wc) := q_cmp (or_cmp op_eq (op_eqD hr.units)) eqK_false ha hc hm
theorem q_neE {k : Nat} (hr : Room k X.A) (ha : QE X T b a wa) (hc : QE X T b c wc) (hm : behindInMarks .NotEq c = false := by first | exact nomark _ | rfl) : QE X T b (.Compare a [.NotEq] [c] pos) (wBin oNe wa wc) := q_cmp (or_cmp op_ne (op_neD hr.units)) eqK_true ha hc hm
theorem q_ltT (ha : QE X T b a wa) (hc : QE X T b c wc) (hm : behindInMarks .Lt c = false := by first | exact nomark _ | rfl) : QT X T b (.Compare a [.Lt] [c] pos) (wTst (wBin oLt wa wc)) := q_cmpT op_lt opc_ib ha hc hm
theorem q_leT (ha : QE X T b a wa) (hc : QE X T b c wc) (hm : behindInMarks .LtE c = false := by first | exact nomark _ | rfl) : QT X T b (.Compare a [.LtE] [c] pos) (wTst (wBin oLe wa wc)) := q_cmpT op_le opc_ib ha hc hm
theorem q_gtT (ha : QE X T b a wa) (hc : QE X T b c wc) (hm : behindInMarks .Gt c = false := by first | exact nomark _ | rfl) : QT X T b (.Compare a [.Gt] [c] pos) (wTst (wBin oGt wa wc)) := q_cmpT op_gt opc_ib ha hc hm
theorem q_geT (ha : QE X T b a wa) (hc : QE X T b c wc) (hm : behindInMarks .GtE c = false := by first | exact nomark _ | rfl) : QT X T b (.Compare a [.GtE] [c] pos) (wTst (wBin oGe wa wc)) := q_cmpT op_ge opc_ib ha hc hm
/-- is None, is not None -/
def D.isN : D → Bool
  | .non => true
  | _ => false
theorem Rp.isN {d : D} {v : V} (h : Rp X.K ρ H d v) : decide (v = .non) = d.isN := by
  cases d with
  | non => rw [show v = .non from h]; exact decide_eq_true rfl
  | bl k => rw [show v = .bl k from h]; exact decide_eq_false (fun z => nomatch z)
  | int k => rw [show v = .int k from h]; exact decide_eq_false (fun z => nomatch z)
  | str k => rw [show v = .str k from h]; exact decide_eq_false (fun z => nomatch z)
  | tup l => obtain ⟨a, vs, e, _⟩ := h; rw [e]; exact decide_eq_false (fun z => nomatch z)
  | loc l => obtain ⟨a, e, _⟩ := h; rw [e]; exact decide_eq_false (fun z => nomatch z)
  | rol l => obtain ⟨a, vs, e, _⟩ := h; rw [e]; exact decide_eq_false (fun z => nomatch z)
def oIsK (k : Bool) : RO := fun x y M R => match y with
  | .non => R (.bl (xor k x.isN)) M
  | _ => False
theorem opc_is : OpC X T b (fun x y H Q => y = .non ∧ Q (.bl (decide (x = .non))) H) (oIsK false) := fun ρ σ H env M d1 d2 v1 v2 R Q rs p1 p2 h p => by
  cases d2 with
  | non =>
    have h : R (.bl (xor false d1.isN)) M := h
    rw [Bool.false_xor] at h
    exact ⟨p2, by rw [p1.isN]; exact p _ M _ H ρ h rs (Stp.refl _ _) rfl⟩
  | _ => exact h.elim
theorem opc_isNot : OpC X T b (fun x y H Q => y = .non ∧ Q (.bl (!decide (x = .non))) H) (oIsK true) := fun ρ σ H env M d1 d2 v1 v2 R Q rs p1 p2 h p => by
  cases d2 with
  | non =>
    have h : R (.bl (xor true d1.isN)) M := h
    rw [Bool.true_xor] at h
    exact ⟨p2, by rw [p1.isN]; exact p _ M _ H ρ h rs (Stp.refl _ _) rfl⟩
  | _ => exact h.elim
theorem q_isT (ha : QE X T b a wa) (hc : QE X T b c wc) (hm : behindInMarks .Is c = false := by first | exact nomark _ | rfl) : QT X T b (.Compare a [.Is] [c] pos) (wTst (wBin (oIsK false) wa wc)) := q_cmpT op_isN opc_is ha hc hm
theorem q_isnT (ha : QE X T b a wa) (hc : QE X T b c wc) (hm : behindInMarks .IsNot c = false := by first | exact nomark _ | rfl) : QT X T b (.Compare a [.IsNot] [c] pos) (wTst (wBin (oIsK true) wa wc)) := q_cmpT op_notN opc_isNot ha hc hm
theorem q_isE (ha : QE X T b a wa) (hc : QE X T b c wc) (hm : behindInMarks .Is c = false := by first | exact nomark _ | rfl) : QE X T b (.Compare a [.Is] [c] pos) (wBin (oIsK false) wa wc) := q_cmp op_isN opc_is ha hc hm

/-! ### x[i] -/
def oIx : RO := fun x y M R => match x, y with
  | .tup l, .int i => match atI l i with
    | some d => R d M
    | none => False
  | .rol l, .int i => match atI l i with
    | some d => R d M
    | none => False
  | .loc n, .int i => match M[n]? with
    | some (.lst l) => match atI l i with
      | some d => R d M
      | none => False
    | _ => False
  | .str z, .int i => match atI z.cps.toList i with
    | some k => z.length ≤ sizeLine ∧ R (.str ⟨#[k]⟩) M
    | none => False
  | _, _ => False
theorem Rps.atI {l : List D} {vs : List V} (r : Rps X.K ρ H l vs) {i : Int} {d : D} (e : L2.atI l i = some d) : ∃ v, L2.atI vs i = some v ∧ Rp X.K ρ H d v := by
  unfold L2.atI at e ⊢
  rw [r.length]
  cases h : ixN l.length i with
  | none => rw [h] at e; cases e
  | some j =>
    rw [h] at e
    exact r.get e
theorem q_at (ha : QE X T b a wa) (hc : QE X T b c wc) (hs : PlainIx c := by exact fun _ _ => rfl) : QE X T b (.Subscript a c pos) (wBin oIx wa wc) :=
  q_ix ix_seq (fun ρ σ H env M d1 d2 v1 v2 R Q rs p1 p2 h p => by
    unfold oIx at h
    split at h
    · split at h
      · rename_i l i _ d e
        obtain ⟨a, vs, ea, t, r⟩ := p1
        obtain ⟨v, e1, e2⟩ := r.atI e
        exact .inr (.inl ⟨a, vs, i, v, ea, p2, t.sq, e1, p d M v H ρ h rs (Stp.refl _ _) e2⟩)
      · exact h.elim
    · split at h
      · rename_i l i _ d e
        obtain ⟨a, vs, ea, t, r⟩ := p1
        obtain ⟨v, e1, e2⟩ := r.atI e
        exact .inl ⟨a, vs, i, v, ea, p2, t.sq, e1, p d M v H ρ h rs (Stp.refl _ _) e2⟩
      · exact h.elim
    · split at h
      · split at h
        · rename_i n i _ l eM _ d e
          obtain ⟨a, ea, hn⟩ := p1
          obtain ⟨vs, q1, r⟩ := rs.m.obs n _ a eM hn
          obtain ⟨v, e1, e2⟩ := r.atI e
          exact .inl ⟨a, vs, i, v, ea, p2, .inl (.inl q1), e1, p d M v H ρ h rs (Stp.refl _ _) e2⟩
        · exact h.elim
      · exact h.elim
    · split at h
      · rename_i z i _ k e
        exact .inr (.inr ⟨z, i, k, p1, p2, h.1, e, p _ M _ H ρ h.2 rs (Stp.refl _ _) rfl⟩)
      · exact h.elim
    · exact h.elim) ha hc hs
end
end R3
set_option Elab.async false
set_option linter.all false
set_option maxRecDepth 100000
set_option maxHeartbeats 2000000
/-! enumerate over a tuple. -/
namespace Gx
open PySem PySem.Spec PyProof.Rows L2

theorem meets_enumerate_new1 {v : Value} {o : Obj} {H : Heap → Prop} (B : Begins v o H) :
    Meets (Builtin.«enumerate.__new__» ⟨[.type "enumerate", v], []⟩) (fun _ R s => H s.heap ∧
      R (.ok (.ret (.ref (s.heap.push o).objs.size))) { s with heap := (s.heap.push o).push { cls := .type "enumerate", data := .fields #[.none, .bool false, .ref s.heap.objs.size, rawInt 0, .none, .none] } }) :=
  .of_wp fun prog w A R s h => by
    obtain ⟨hp, g, d, tk, os⟩ := s; obtain ⟨h1, h⟩ := h
    have hsub := sub_enumerate
    have q1 : ∀ {A' : Around} {E : Value → Shared → Prop} {Q : Value → Shared → Prop}, Q (.ref hp.objs.size) ⟨hp.push o, g, d, tk, os⟩ → wpAny (model prog w) A' (pyIter v) Q E ⟨hp, g, d, tk, os⟩ :=
      fun q => B.iter prog w _ _ ⟨hp, g, d, tk, os⟩ _ h1 q
    wp_walk using q1
    refine wpAny_stack_any fun st => wpAny_pure ?_
    split
    · rename_i c _ _ _ _ _
      cases (c == Value.type "enumerate")
      · wp_walk using q1
        exact ⟨_, rfl, h⟩
      · wp_walk using q1
        exact ⟨_, rfl, h⟩
    · wp_walk using q1
      exact ⟨_, rfl, h⟩
section
variable {prog : Program} {w : World} {A : Around} {E : Value → Shared → Prop} {s : Shared}
theorem enum_begins1 {v : Value} {o : Obj} {H : Heap → Prop} {Q : Value → Shared → Prop} (B : Begins v o H) (h1 : H s.heap)
    (h : ∀ h', IsEnum h' (s.heap.objs.size + 1) s.heap.objs.size 0 .none → h'.get? s.heap.objs.size = some o → h'.objs.size = s.heap.objs.size + 2 →
      (∀ b o, s.heap.get? b = some o → h'.get? b = some o) → Q (.ref (s.heap.objs.size + 1)) { s with heap := h' }) :
    wpAny (model prog w) A (call (.type "enumerate") [v]) Q E s := by
  refine callType_new F.called_enumerate (by decide) (F.typeCall_enumerate_1 _) (F.newCall_enumerate_1 _) (fun obj => F.args_object_init_2 obj _) F.entry_enumerate_new
    (meets_enumerate_new1 B) ⟨h1, ?_⟩
  have hz : (s.heap.push o).objs.size = s.heap.objs.size + 1 := Heap.size_push ..
  show _ ∧ _
  rw [hz]
  have he : IsEnum ((s.heap.push o).push { cls := .type "enumerate", data := .fields #[.none, .bool false, .ref s.heap.objs.size, rawInt 0, .none, .none] }) (s.heap.objs.size + 1) s.heap.objs.size 0 .none := by
    have := Heap.get?_push_size (s.heap.push o) (o := { cls := .type "enumerate", data := .fields #[.none, .bool false, .ref s.heap.objs.size, rawInt 0, .none, .none] }) rfl
    rw [hz] at this; exact this
  refine ⟨⟨_, he, rfl⟩, h _ he (Heap.get?_push_of_some _ (Heap.get?_push_size _ B.free)) (by rw [Heap.size_push, hz]) fun b o x => Heap.get?_push_of_some _ (Heap.get?_push_of_some _ x)⟩
end
/-- enumerate over the tuple at a -/
def IteT (K : PySem.W.Frag) (a : Addr) : It :=
  ⟨fun i H => ∃ (xs : List V) (x : V), SqT K H a xs ∧ xs[i]? = some x, fun i H v H' => ∃ T x, v = .ref T ∧ H T = none ∧ H' = upd H T (.tup [.int (i : Nat), x]) ∧ ∀ xs, SqT K H a xs → xs[i]? = some x, fun i H => ∃ xs : List V, SqT K H a xs ∧ xs.length ≤ i⟩
theorem turn_enumT {P : Program} {w : World} {K : PySem.W.Frag} {elts : List Expr} {kk : Nat} {tpos : Pos} (a e it : Addr) :
    Turn P w K (.Tuple elts kk tpos) (IteT K a) [e, it] e (fun i h => (∃ old, IsEnum h e it ((i : Nat) : Int) old) ∧ h.IsTupleIter it a i ∧ e ≠ it) where
  mem := by simp
  obj := fun i h st b hb => by
    obtain ⟨⟨old, he⟩, ⟨o, ho, hc, hd⟩, _⟩ := st
    have e' : b = e ∨ b = it := by simpa using hb
    rcases e' with z | z
    · rw [z]; exact ⟨_, he, fun v q => nomatch q⟩
    · rw [z]; exact ⟨o, ho, fun v q => by rw [hd] at q; cases q⟩
  keep := fun i h h' st k => let ⟨⟨old, he⟩, hi, hne⟩ := st; ⟨⟨old, k e (by simp) _ he⟩, hi.at fun o q => k it (by simp) o q, hne⟩
  item := by
    intro X hP hw hK hc i pins s σ H E I hf st hg
    subst hP hw hK
    obtain ⟨⟨old, he⟩, hit, hne⟩ := st
    obtain ⟨xs, x, hq, hx⟩ := hg
    obtain ⟨its, rv, p, hz⟩ := I.tuple hq
    obtain ⟨u, hu, ru⟩ := rv.get hx
    have hel : e < s.heap.objs.size := Heap.lt_size he
    have hil : it < s.heap.objs.size := by obtain ⟨_, q, _⟩ := hit; exact Heap.lt_size q
    have hai : a ≠ it := fun z => by
      obtain ⟨o1, e1, c1, _⟩ := hit
      obtain ⟨o2, e2, c2, _⟩ := p
      rw [z, e1] at e2
      cases e2
      rw [c1] at c2
      simp at c2
    have hea : e ≠ a := fun z => by
      obtain ⟨o2, e2, c2, _⟩ := p
      rw [← z] at e2
      rw [show s.heap.get? e = _ from he] at e2
      cases e2
      simp at c2
    have D := Draws.tuple (prog := X.prog) (w := X.w) (A := X.A.in1) (show X.A.in1.handled = none from I.ok.hd hc) it a hai its.toArray
    have hi : i < its.length := by
      rw [← rv.length]
      exact (List.getElem?_eq_some_iff.mp hx).1
    refine wpAny_pyNext_enum_itemD D he ⟨hit, p⟩ (by simpa using hi) hne (by simp [hne, hea]) fun y h' tk hP ho hst' hT hsz hk => ?_
    have hy : y = u := by
      have : its[i]? = some y := by simpa using hP
      rw [hu] at this
      exact (Option.some.inj this).symm
    subst hy
    refine ⟨_, rfl, wpAny_letOwnedTupleGo_enum (s := { s with heap := h', toks := tk + 1 }) ho fun h'' he' sb => ?_⟩
    have hT2 : h''.get? s.heap.objs.size = some { cls := .type "tuple", data := .seq #[.int i tk, y] } := (sb.2 _ (Nat.ne_of_gt hel)).trans hT
    have new : ObjOk X.prog X.w (upd H s.heap.objs.size (.tup [.int (i : Nat), x])) h'' s.heap.objs.size (.tup [.int (i : Nat), x]) :=
      ⟨by show 2 ≤ sizeLine; decide, [.int i tk, y], .cons ⟨_, rfl⟩ (.cons ru .nil), ⟨_, hT2, rfl, _, rfl⟩⟩
    have I1 : Inv X pins σ (upd H s.heap.objs.size (.tup [.int (i : Nat), x])) { s with heap := h'', toks := tk + 1 } :=
      I.turnedNew (ch := [e, it]) (fun b ob hb q => (sb.2 b (fun z => hb (by simp [z]))).trans (hk b ob (fun z => hb (by simp [z])) (fun z => hb (by simp [z])) q)) hf (Nat.le_refl _) new
    refine ⟨.ref s.heap.objs.size, _, I1, rfl, ⟨_, x, rfl, I.hok.fresh (Nat.le_refl _), rfl, fun ys hy => by rw [I.tuple_inj hy hq]; exact hx⟩, ⟨⟨y, ?_⟩, hst'.1.at fun o q => (sb.2 it (Ne.symm hne)).trans q, hne⟩, fun b hb => ?_⟩
    · have e1 : ((i + 1 : Nat) : Int) = (i : Int) + 1 := by omega
      rw [e1]; exact he'
    · have hb' : b < s.heap.objs.size := by
        have e' : b = e ∨ b = it := by simpa using hb
        rcases e' with z | z
        · rw [z]; exact hel
        · rw [z]; exact hil
      rw [upd_ne (Nat.ne_of_lt hb')]
      exact (hf b hb).1
  done := by
    intro X hP hw hK hc i pins s σ H E I hf st hg
    subst hP hw hK
    obtain ⟨⟨old, he⟩, hit, hne⟩ := st
    obtain ⟨xs, hq, hx⟩ := hg
    obtain ⟨its, rv, p, hz⟩ := I.tuple hq
    obtain ⟨f0, f1, f2, f3, f4, f5⟩ := hf it (by simp)
    have hl := rv.length
    unfold pyNext
    refine wpAny_bind (wpAny_attempt (wpAny_callSpecial?_slot (name := Str.ofString "__next__") (show s.TypeIs (.ref e) "enumerate" from ⟨_, he, rfl⟩) F.slot_enumerate_next
      (wpAny_call_entry F.slot_enumerate_next (show s.TypeIs (.ref e) "enumerate" from ⟨_, he, rfl⟩) F.entry_enumerate_next ?_ (F.args_enumerate_next_1 _))))
    show wpAny _ _ (field (.ref e) 2 >>= _) _ _ _
    refine wpAny_bind (wpAny_field he rfl (x := .ref it) rfl ?_)
    refine wpAny_bind (wpAny_nextOf_tuple_end (show X.A.handled = none from I.ok.hd hc) hit p (by simp; omega) fun h' x he' hx' => ?_)
    obtain ⟨o, ho, hcc⟩ := hx'
    refine wpAny_bind (wpAny_isInstance (T := "StopIteration") (b := true) ⟨o, ho, hcc⟩ isSubtype_stop ?_)
    exact wpAny_pure ⟨rfl, I.turned (t' := s.toks) (fun b o hb q => he' b o hb q) f0 f1 f3 f4 f5⟩
  self := fun A i s Q E st h => let ⟨⟨_, he⟩, _⟩ := st; wpAny_pyIter_enum he h
def iEnumT (K : PySem.W.Frag) (ta : TA) : TI := fun σ H R => ta σ H fun vs H1 => ∃ a xs, vs = [.ref a] ∧ SqT K H1 a xs ∧ R (IteT K a) H1
theorem pi_enumT {X : Cx} {e : Expr} {ta : TA} {p pos tpos : Pos} {elts : List Expr} {kk : Nat} (hg : Gl X "enumerate") (hm : X.mg "enumerate" = none) (ha : PA X [e] ta) (hs : starEach [e] X.env = [(false, eval e X.env)] := by rfl) :
    PI X (.Tuple elts kk tpos) (.Call (.Name "enumerate" p) [e] [] pos) (iEnumT X.K ta) := by
  refine ⟨fun pins s σ H R I h => ?_⟩
  refine Call_ (ld_blt I hg hm boot_enumerate (PyProof.Rows.callWith_type1 (thn (ha.run pos pins s σ H _ I h) fun us s1 ⟨vs, H1, I1, r1, q1⟩ => ?_) hs rfl))
  obtain ⟨a, xs, ex, hq, q⟩ := q1
  subst ex
  cases r1 with
  | cons r rr =>
    cases rr
    cases r
    obtain ⟨its, rv, p', hz⟩ := I1.tuple hq
    refine enum_begins1 (begins_tuple a its.toArray) p' fun h' he hit hsz hk => wpAny_pyIter_enum he ?_
    have I2 : Inv X pins σ H1 { s1 with heap := h' } := I1.kept (t' := s1.toks) hk
    refine ⟨s1.heap.objs.size + 1, [s1.heap.objs.size + 1, s1.heap.objs.size], _, _, H1, rfl, I2, turn_enumT a (s1.heap.objs.size + 1) s1.heap.objs.size, ⟨⟨.none, he⟩, ⟨_, hit, rfl, rfl⟩, Nat.succ_ne_self _⟩, fun b hb => ?_, q⟩
    have e' : b = s1.heap.objs.size + 1 ∨ b = s1.heap.objs.size := by simpa using hb
    have hle : s1.heap.objs.size ≤ b := by
      rcases e' with z | z
      · rw [z]; exact Nat.le_add_right _ _
      · rw [z]; exact Nat.le_refl _
    exact I1.fpOk hle (I1.hok.fresh hle)
end Gx
set_option Elab.async false
set_option linter.all false
set_option maxRecDepth 100000
set_option maxHeartbeats 2000000
namespace R3
open PySem PySem.Spec PyProof.Rows L2 Gx

/-! ### tables of keys -/
section
variable {κ : Type} [DecidableEq κ] {α : Type}
def valD (m : List (κ × α)) (k : κ) : Option α := (m.find? fun kv => decide (kv.1 = k)).map (·.2)
def putD (m : List (κ × α)) (k : κ) (v : α) : List (κ × α) := if (m.any fun kv => decide (kv.1 = k)) = true then m.map (fun kv => if kv.1 = k then (kv.1, v) else kv) else m ++ [(k, v)]
def mergeD (m more : List (κ × α)) : List (κ × α) := more.foldl (fun acc kv => putD acc kv.1 kv.2) m
variable {K : PySem.W.Frag} {ρ : List Addr} {H : Hp}
theorem RpK.val : ∀ {m : List (κ × D)} {vs : List (κ × V)} (k : κ), RpK K ρ H m vs → (∀ d, valD m k = some d → ∃ v, valV vs k = some v ∧ Rp K ρ H d v) ∧ (valD m k = none → valV vs k = none)
  | [], vs, k, h => by
    rw [show vs = [] from h]
    exact ⟨fun d z => (by cases z), fun _ => rfl⟩
  | (j, d) :: ds, vs, k, h => by
    obtain ⟨v, r, e, h1, h2⟩ := h
    subst e
    have ih := RpK.val k h2
    unfold valD valV
    rw [List.find?_cons, List.find?_cons]
    by_cases e : j = k
    · rw [decide_eq_true e]
      refine ⟨fun d' z => ?_, fun z => by cases z⟩
      cases z
      exact ⟨v, rfl, h1⟩
    · rw [decide_eq_false e]
      exact ih
theorem RpK.any : ∀ {m : List (κ × D)} {vs : List (κ × V)} (k : κ), RpK K ρ H m vs → (m.any fun kv => decide (kv.1 = k)) = vs.any fun kv => decide (kv.1 = k)
  | [], vs, k, h => by
    rw [show vs = [] from h]
    rfl
  | (j, d) :: ds, vs, k, h => by
    obtain ⟨v, r, e, h1, h2⟩ := h
    subst e
    rw [List.any_cons, List.any_cons, RpK.any k h2]
theorem RpK.repl {k : κ} {x : D} {y : V} (rx : Rp K ρ H x y) : ∀ {m : List (κ × D)} {vs : List (κ × V)}, RpK K ρ H m vs → RpK K ρ H (m.map fun kv => if kv.1 = k then (kv.1, x) else kv) (vs.map fun kv => if kv.1 = k then (kv.1, y) else kv)
  | [], vs, h => by
    rw [show vs = [] from h]
    rfl
  | (j, d) :: ds, vs, h => by
    obtain ⟨v, r, e, h1, h2⟩ := h
    subst e
    rw [List.map_cons, List.map_cons]
    by_cases e : j = k
    · rw [if_pos e, if_pos e]
      exact ⟨y, _, rfl, rx, RpK.repl rx h2⟩
    · rw [if_neg e, if_neg e]
      exact ⟨v, _, rfl, h1, RpK.repl rx h2⟩
theorem RpK.snoc {k : κ} {x : D} {y : V} (rx : Rp K ρ H x y) : ∀ {m : List (κ × D)} {vs : List (κ × V)}, RpK K ρ H m vs → RpK K ρ H (m ++ [(k, x)]) (vs ++ [(k, y)])
  | [], vs, h => by
    rw [show vs = [] from h]
    exact ⟨y, [], rfl, rx, rfl⟩
  | (j, d) :: ds, vs, h => by
    obtain ⟨v, r, e, h1, h2⟩ := h
    subst e
    exact ⟨v, _, rfl, h1, RpK.snoc rx h2⟩
theorem RpK.put {k : κ} {x : D} {y : V} {m : List (κ × D)} {vs : List (κ × V)} (h : RpK K ρ H m vs) (rx : Rp K ρ H x y) : RpK K ρ H (putD m k x) (putK vs k y) := by
  unfold putD putK
  rw [h.any k]
  split
  · exact h.repl rx
  · exact h.snoc rx
theorem RpK.length : ∀ {m : List (κ × D)} {vs : List (κ × V)}, RpK K ρ H m vs → vs.length = m.length
  | [], vs, h => by rw [show vs = [] from h]; rfl
  | (j, d) :: ds, vs, h => by
    obtain ⟨v, r, e, h1, h2⟩ := h
    rw [e, List.length_cons, List.length_cons, RpK.length h2]
theorem RpK.get : ∀ {m : List (κ × D)} {vs : List (κ × V)} {i : Nat} {k : κ} {d : D}, RpK K ρ H m vs → m[i]? = some (k, d) → ∃ v, vs[i]? = some (k, v) ∧ Rp K ρ H d v
  | [], vs, i, k, d, _, e => by simp at e
  | (j, x) :: ds, vs, 0, k, d, h, e => by
    obtain ⟨v, r, e1, h1, h2⟩ := h
    have e : (j, x) = (k, d) := Option.some.inj e
    cases e
    subst e1
    exact ⟨v, rfl, h1⟩
  | (j, x) :: ds, vs, i + 1, k, d, h, e => by
    obtain ⟨v, r, e1, h1, h2⟩ := h
    subst e1
    exact RpK.get (i := i) h2 e
end
theorem RpK.merge {K : PySem.W.Frag} {ρ : List Addr} {H : Hp} : ∀ {more m : List (Key × D)} {us vs : List (Key × V)}, RpK K ρ H more us → RpK K ρ H m vs → RpK K ρ H (mergeD m more) (mergeK vs us)
  | [], m, us, vs, h, g => by
    rw [show us = [] from h]
    exact g
  | (j, x) :: ds, m, us, vs, h, g => by
    obtain ⟨v, r, e1, h1, h2⟩ := h
    subst e1
    show RpK K ρ H (mergeD (putD m j x) ds) (mergeK (putK vs j v) r)
    exact RpK.merge h2 (g.put h1)
/-- a key -/
def D.key : D → Option Key
  | .int i => some (.inl i)
  | .str x => some (.inr x)
  | _ => none
def kD : Key → D
  | .inl i => .int i
  | .inr x => .str x
theorem Rp.key {K : PySem.W.Frag} {ρ : List Addr} {H : Hp} {d : D} {v : V} {k : Key} (h : Rp K ρ H d v) (e : d.key = some k) : v = kV k := by
  cases d with
  | int i => cases e; exact h
  | str i => cases e; exact h
  | _ => cases e
theorem Rp.ofKey {K : PySem.W.Frag} {ρ : List Addr} {H : Hp} (k : Key) : Rp K ρ H (kD k) (kV k) := by cases k <;> rfl

/-! ### the memory is written -/
def Soft : HO → Prop
  | .lst _ => True
  | .dK _ => True
  | .dT _ => True
  | _ => False
section
variable {X : Cx} {T : List Addr} {b : Bool} {ρ ρ' : List Addr} {σ : Sg} {H H' : Hp} {env : Env3} {M : Mem}
theorem soft_ne {a x : Addr} {o o' u : HO} (e : H a = some o) (s : Soft o) (h : H x = some u) (n : ¬ Soft u) : upd H a o' x = some u := by
  rw [upd_ne (fun z => by rw [z, e] at h; cases h; exact n s)]
  exact h
theorem soft_tabs {a : Addr} {o o' : HO} (e : H a = some o) (s : Soft o) (P : Addr) (h : TabA H P) : TabA (upd H a o') P :=
  tabA_upd e (fun ps z => by rw [z] at s; exact s) (fun c P z => by rw [z] at s; exact s) P h
/-- what is written is a list or a dict: of what stands, all else stays -/
theorem Stp.soft {a : Addr} {o o' : HO} (e : H a = some o) (s : Soft o) (ha : a ∈ ρ) : Stp ρ H ρ (upd H a o') :=
  ⟨List.prefix_refl _, fun x xs h => soft_ne e s h fun z => z, fun P h => soft_tabs e s P h, fun c x P h => soft_ne e s h fun z => z, fun x c u h => soft_ne e s h fun z => z, fun x u h n => ⟨n, .inl (by rw [upd_ne fun z => n (by rw [z]; exact ha)]; exact h)⟩⟩
theorem RpO.keep {K : PySem.W.Frag} (pre : ρ <+: ρ') (ht : ∀ a xs, H a = some (.tup xs) → H' a = some (.tup xs)) (hf : ∀ a o xs, H a = some (.frz o (.lst xs)) → H' a = some (.frz o (.lst xs))) {ob : Ob} {a : Addr} (ha : H' a = H a) (q : RpO K ρ H ob a) : RpO K ρ' H' ob a := by
  cases ob with
  | lst l => obtain ⟨vs, q1, q2⟩ := q; exact ⟨vs, ha.trans q1, Rps.mono pre ht hf _ _ q2⟩
  | dK l => obtain ⟨vs, q1, q2⟩ := q; exact ⟨vs, ha.trans q1, RpK.mono pre ht hf _ _ q2⟩
  | dT l => obtain ⟨vs, q1, q2⟩ := q; exact ⟨vs, ha.trans q1, RpK.mono pre ht hf _ _ q2⟩
  | lkK l => obtain ⟨o', vs, q1, q2⟩ := q; exact ⟨o', vs, ha.trans q1, RpK.mono pre ht hf _ _ q2⟩
  | lkT l => obtain ⟨o', vs, q1, q2⟩ := q; exact ⟨o', vs, ha.trans q1, RpK.mono pre ht hf _ _ q2⟩
/-- the thing n is another -/
theorem RelM.put0 {K : PySem.W.Frag} {n : Nat} {a : Addr} {o' : HO} {ob : Ob} (r : RelM K T ρ H M) (ha : ρ[n]? = some a) (ht : ∀ x xs, H x = some (.tup xs) → upd H a o' x = some (.tup xs)) (hf : ∀ x o xs, H x = some (.frz o (.lst xs)) → upd H a o' x = some (.frz o (.lst xs)))
    (hT : ∀ P, TabA H P → TabA (upd H a o') P) (new : RpO K ρ (upd H a o') ob a) : RelM K T ρ (upd H a o') (M.set n ob) := by
  refine ⟨r.nd, by rw [List.length_set]; exact r.len, fun m ob' a' h1 h2 => ?_, fun P hP => hT P (r.tabs P hP)⟩
  by_cases hm : n = m
  · subst hm
    rw [ha] at h2
    cases h2
    have hlt : n < M.length := by rw [← r.len]; exact (List.getElem?_eq_some_iff.mp ha).1
    rw [List.getElem?_set_self hlt] at h1
    cases h1
    exact new
  · rw [List.getElem?_set_ne hm] at h1
    have hne : a' ≠ a := fun z => by
      subst z
      obtain ⟨l1, e1⟩ := List.getElem?_eq_some_iff.mp ha
      obtain ⟨l2, e2⟩ := List.getElem?_eq_some_iff.mp h2
      exact hm ((List.getElem_inj r.nd).mp (e1.trans e2.symm))
    exact RpO.keep (List.prefix_refl _) ht hf (upd_ne hne) (r.obs m ob' a' h1 h2)
theorem RelS.put {n : Nat} {a : Addr} {o o' : HO} {ob : Ob} (r : RelS X T b ρ σ H env M) (ha : ρ[n]? = some a) (e : H a = some o) (s : Soft o) (new : RpO X.K ρ (upd H a o') ob a) : RelS X T b ρ σ (upd H a o') env (M.set n ob) ∧ Stp ρ H ρ (upd H a o') := by
  have st : Stp ρ H ρ (upd H a o') := Stp.soft e s (List.mem_of_getElem? ha)
  exact ⟨⟨r.m.put0 ha st.tup st.frl st.tab new, r.e.stp st, r.c.stp st⟩, st⟩
/-- a thing comes to the memory -/
theorem RelM.newO {K : PySem.W.Frag} {p : Addr} {ob : Ob} (r : RelM K T ρ H M) (hn : p ∉ ρ) (new : RpO K (ρ ++ [p]) H ob p) : RelM K T (ρ ++ [p]) H (M ++ [ob]) := by
  have pre : ρ <+: ρ ++ [p] := List.prefix_append _ _
  refine ⟨List.nodup_append.mpr ⟨r.nd, List.nodup_cons.mpr ⟨by simp, List.nodup_nil⟩, fun a ha c hc z => ?_⟩, by rw [List.length_append, List.length_append, r.len]; rfl, fun n ob' a h1 h2 => ?_, r.tabs⟩
  · rw [List.mem_singleton.mp hc] at z
    exact hn (z ▸ ha)
  · by_cases hl : n < M.length
    · rw [List.getElem?_append_left hl] at h1
      rw [List.getElem?_append_left (by rw [r.len]; exact hl)] at h2
      exact RpO.keep pre (fun _ _ h => h) (fun _ _ _ h => h) rfl (r.obs n ob' a h1 h2)
    · have hM : M.length ≤ n := Nat.not_lt.mp hl
      rw [List.getElem?_append_right hM] at h1
      rw [List.getElem?_append_right (by rw [r.len]; exact hM), r.len] at h2
      cases hk : n - M.length with
      | zero =>
        rw [hk] at h1 h2
        have h1 : ob = ob' := Option.some.inj h1
        have h2 : p = a := Option.some.inj h2
        subst h1 h2
        exact new
      | succ j =>
        rw [hk] at h1
        simp at h1
theorem RelS.newO {p : Addr} {ob : Ob} (r : RelS X T b ρ σ H env M) (hn : p ∉ ρ) (new : RpO X.K (ρ ++ [p]) H ob p) : RelS X T b (ρ ++ [p]) σ H env (M ++ [ob]) :=
  ⟨r.m.newO hn new, ⟨r.e.len, fun i d h => let ⟨v, h1, h2⟩ := r.e.at_ i d h; ⟨v, h1, Rp.mono (List.prefix_append _ _) (fun _ _ h => h) (fun _ _ _ h => h) _ _ h2⟩⟩, r.c⟩
theorem loc_new {K : PySem.W.Frag} {p : Addr} (r : RelM K T ρ H M) : Rp K (ρ ++ [p]) H' (.loc M.length) (.ref p) := ⟨p, rfl, by rw [← r.len, List.getElem?_append_right (Nat.le_refl _), Nat.sub_self]; rfl⟩

variable {o i e a c f : Expr} {wo wi we wa wc : WE} {pos apos cpos : Pos}
/-! ### {} -/
def wDNew : WE := fun _ M R => R (.loc M.length) (M ++ [.dK []])
theorem q_dnew : QE X T b (.Dict [] [] pos) wDNew := ⟨PE.weak pe_dnewK fun σ H Q ⟨ρ, env, M, R, rs, hw, p⟩ q hq => by
  have ex : Ext3 H (upd H q (.dK [])) := Ext3.new hq
  have nq := new_notin rs.m hq
  have r1 := rs.ext ex
  exact p _ _ _ _ (ρ ++ [q]) hw (r1.newO nq ⟨[], upd_same, rfl⟩) (ex.stp.new hq) (loc_new r1.m)⟩

/-! ### x[i] = .. -/
def wGsub (wo wi : WE) : WG := fun d env M R => wo env M fun x M1 => wi env M1 fun y M2 => match x with
  | .loc n => match M2[n]? with
    | some (.lst l) => match y with
      | .int k => match ixN l.length k with
        | some j => R env (M2.set n (.lst (l.set j d)))
        | none => False
      | _ => False
    | some (.dK m) => match y.key with
      | some k => m.length < sizeLine ∧ R env (M2.set n (.dK (putD m k d)))
      | none => False
    | _ => False
  | _ => False
theorem set_or {t t' : TSet} (h : PSet X t) (h' : PSet X t') : PSet X fun o i v H Q => t o i v H Q ∨ t' o i v H Q := fun pins s σ H o i v ov iv u Q I r1 r2 r3 q => by
  rcases q with q | q
  · exact h pins s σ H o i v ov iv u Q I r1 r2 r3 q
  · exact h' pins s σ H o i v ov iv u Q I r1 r2 r3 q
theorem q_gsub {k : Nat} (hr : Room k X.A) (ho : QE X T b o wo) (hi : QE X T b i wi)
    (ha : ∀ v, assign (.Subscript o i pos) X.env v = (do
      let ov ← holding [v] (eval o X.env)
      let iv ← holding [v, ov] (eval i X.env)
      standAt pos
      holding [v, ov, iv] (setItem ov iv v)
      release [v, ov, iv] []) := by intro _; rfl) : QG X T b [] (.Subscript o i pos) (wGsub wo wi) :=
  ⟨PG.weak (pg_sub ho.pe hi.pe (set_or set_list (set_dict (by have := hr.units; omega))) ha) fun v σ H Q ⟨ρ, env, M, R, d, rs, rp, hw, p⟩ => lift_go rs hw fun x M1 u1 H1 ρ1 h1 r1 s1 p1 => lift_go r1 h1 fun y M2 u2 H2 ρ2 h2 r2 s2 p2 => by
    cases x with
    | loc n =>
      obtain ⟨q, eq, hn⟩ := p1.stp s2
      have rd : Rp X.K ρ2 H2 d v := rp.stp (s1.trans s2)
      cases eM : M2[n]? with
      | none => simp only [eM] at h2
      | some ob => cases ob with
        | lst l =>
          simp only [eM] at h2
          cases y with
          | int k =>
            simp only at h2
            cases ej : ixN l.length k with
            | none => simp only [ej] at h2
            | some j =>
              simp only [ej] at h2
              obtain ⟨vs, q1, q2⟩ := r2.m.obs n _ q eM hn
              refine .inl ⟨q, vs, k, j, eq, p2, q1, by rw [q2.length]; exact ej, ?_⟩
              have st : Stp ρ2 H2 ρ2 (upd H2 q (.lst (vs.set j v))) := Stp.soft q1 trivial (List.mem_of_getElem? hn)
              obtain ⟨r3, s3⟩ := r2.put (o' := .lst (vs.set j v)) (ob := .lst (l.set j d)) hn q1 trivial ⟨_, upd_same, (q2.set j rd).stp st⟩
              exact p _ _ _ _ ρ2 h2 r3 (s1.trans (s2.trans s3)) (Keep.refl _ _)
          | _ => exact h2.elim
        | dK m =>
          simp only [eM] at h2
          cases ek : y.key with
          | none => simp only [ek] at h2
          | some k =>
            simp only [ek] at h2
            obtain ⟨vs, q1, q2⟩ := r2.m.obs n _ q eM hn
            refine .inr ⟨q, _, eq, .inl ⟨vs, k, q1, p2.key ek, by rw [q2.length]; exact h2.1, rfl⟩, ?_⟩
            have st : Stp ρ2 H2 ρ2 (upd H2 q (.dK (putK vs k v))) := Stp.soft q1 trivial (List.mem_of_getElem? hn)
            obtain ⟨r3, s3⟩ := r2.put (o' := .dK (putK vs k v)) (ob := .dK (putD m k d)) hn q1 trivial ⟨_, upd_same, (q2.put rd).stp st⟩
            exact p _ _ _ _ ρ2 h2.2 r3 (s1.trans (s2.trans s3)) (Keep.refl _ _)
        | _ => simp only [eM] at h2
    | _ => exact h2.elim⟩

/-! ### methods of lists -/
def Ob.tbl : Ob → Option (List (Key × D))
  | .dK m => some m
  | .lkK m => some m
  | _ => none
def Ob.seq : Ob → Option (List D)
  | .lst l => some l
  | _ => none
/-- x.append(e) -/
def wAppend (wo we : WE) : WE := fun env M R => wo env M fun x M1 => match x with
  | .loc n => match M1[n]?.bind Ob.seq with
    | some _ => we env M1 fun d M2 => match M2[n]?.bind Ob.seq with
      | some l => l.length < sizeLine ∧ R .non (M2.set n (.lst (l ++ [d])))
      | none => False
    | none => False
  | _ => False
theorem seq_at {n : Nat} {l : List D} (h : M[n]?.bind Ob.seq = some l) : M[n]? = some (.lst l) := by
  cases e : M[n]? with
  | none => rw [e] at h; cases h
  | some ob => rw [e] at h; cases ob <;> cases h; rfl
theorem q_append (ho : QE X T b o wo) (he : QE X T b e we) (hbase : attributeBase o "append" X.env (eval o X.env) = eval o X.env := by rfl)
    (hfew : (((backTo cpos (starEach [e] X.env)).all (fun x => !x.1)) && (backToKw cpos (keywordEach [] X.env)).all (fun x => x.1.isSome) && decide (([e] : List Expr).length + ([] : List Keyword).length + (if ([] : List Keyword).isEmpty = true then 0 else 1) < 30)) = true := by rfl)
    (hl : (apos.endLine == cpos.line) = true := by rfl) (he1 : starEach [e] X.env = (false, eval e X.env) :: starEach [] X.env := by rfl) (hp : (backTo cpos (starEach [] X.env)).any (·.1) = false := by rfl) : QE X T b (.Call (.Attribute o "append" apos) [e] [] cpos) (wAppend wo we) :=
  ⟨PE.weak (pe_bm PySem.F.plainAttrs_list PySem.F.slot_list_append PySem.F.type_list_append (fun pins s σ H x xs v us Q I r1 r2 h => mt_append pins s σ H x xs v us Q I r1 r2 h) ho.pe (pa_cons he.pe pa_nil he1) hbase hfew hl he1 hp) fun σ H Q ⟨ρ, env, M, R, rs, hw, p⟩ => lift_go rs hw fun x M1 u1 H1 ρ1 h1 r1 s1 p1 => by
    cases x with
    | loc n =>
      obtain ⟨q, eq, hn⟩ := p1
      cases e1 : M1[n]?.bind Ob.seq with
      | none => simp only [e1] at h1
      | some l0 =>
        simp only [e1] at h1
        obtain ⟨vs0, q1, q2⟩ := r1.m.obs n _ q (seq_at e1) hn
        subst eq
        refine ⟨.inl ⟨rfl, vs0, .inl (.inl q1)⟩, lift_go r1 h1 fun d M2 v H2 ρ2 h2 r2 s2 p2 => ?_⟩
        cases e2 : M2[n]?.bind Ob.seq with
        | none => simp only [e2] at h2
        | some l =>
          simp only [e2] at h2
          have hn2 := pre_get s2.pre hn
          obtain ⟨vs, q1', q2'⟩ := r2.m.obs n _ q (seq_at e2) hn2
          refine ⟨q, vs, v, rfl, rfl, q1', by rw [q2'.length]; exact h2.1, ?_⟩
          have st : Stp ρ2 H2 ρ2 (upd H2 q (.lst (vs ++ [v]))) := Stp.soft q1' trivial (List.mem_of_getElem? hn2)
          obtain ⟨r3, s3⟩ := r2.put (o' := .lst (vs ++ [v])) (ob := .lst (l ++ [d])) hn2 q1' trivial ⟨_, upd_same, (q2'.append (Rps.one p2)).stp st⟩
          exact p _ _ _ _ ρ2 h2.2 r3 (s1.trans (s2.trans s3)) rfl
    | _ => exact h1.elim⟩
end
end R3
set_option Elab.async false
set_option linter.all false
set_option maxRecDepth 100000
set_option maxHeartbeats 2000000
namespace R3
open PySem PySem.Spec PyProof.Rows L2 Gx

/-- d[k] by values -/
theorem ix_dk {X : Cx} (hu : X.A.units + 1 < cLine) : IxR X (fun x y H Q => ∃ a v, x = .ref a ∧ DGet H a y (some v) ∧ Q v H) := by
  intro value slice pins s σ H x y v u Q I rx ry h hs
  obtain ⟨a, w, rfl, g, q⟩ := h
  obtain rfl : v = Value.ref a := rx
  have hT := dict_typeIs I g
  unfold subscriptTail
  refine wpAny_bind ?_
  rw [getitemInPython_of_ne hT.not_modules]
  refine wpAny_bind (wpAny_specialOf hT PySem.F.slot_dict_getitem.lookup ?_)
  have fin : wpAny (model X.prog X.w) X.A (subscripted slice false (.ref a) u) (fun r s₃ => wpAny (model X.prog X.w) X.A (letTemporaryGo value (.ref a) r >>= fun _ => pure r) (EP X pins σ Q) X.xe s₃) X.xe s := by
    rw [hs]
    exact wpAny_operating (d_getItem hu I g ry fun w' s3 I3 rw' => wpAny_bind (wpAny_letTemporaryGo (wpAny_pure ⟨w, H, I3, rw', q⟩)))
  first
    | exact wpAny_pure (wpAny_bind fin)
    | exact wpAny_bind (wpAny_pure (wpAny_bind fin))
    | exact wpAny_bind fin
section
variable {X : Cx} {T : List Addr} {b : Bool} {ρ ρ' : List Addr} {σ : Sg} {H H' : Hp} {env : Env3} {M : Mem}
variable {o i e a c f : Expr} {wo wi we wa wc : WE} {pos apos cpos : Pos}
/-- the dict at n, walked or not -/
def tblAt (M : Mem) (n : Nat) : Option (List (Key × D)) := M[n]?.bind Ob.tbl
theorem tbl_rd {K : PySem.W.Frag} {n : Nat} {m : List (Key × D)} {q : Addr} (r : RelM K T ρ H M) (h : tblAt M n = some m) (hn : ρ[n]? = some q) : ∃ kvs, Rd H q (.dK kvs) ∧ RpK K ρ H m kvs := by
  unfold tblAt at h
  cases e : M[n]? with
  | none => rw [e] at h; cases h
  | some ob =>
    rw [e] at h
    have g := r.obs n ob q e hn
    cases ob with
    | dK m' => cases h; obtain ⟨vs, q1, q2⟩ := g; exact ⟨vs, .inl q1, q2⟩
    | lkK m' => cases h; obtain ⟨od, vs, q1, q2⟩ := g; exact ⟨vs, .inr ⟨od, q1⟩, q2⟩
    | _ => cases h
/-! ### x[i], dicts too -/
def oAt : RO := fun x y M R => match x with
  | .loc n => match tblAt M n with
    | some m => match y.key with
      | some k => match valD m k with
        | some d => R d M
        | none => False
      | none => False
    | none => oIx x y M R
  | _ => oIx x y M R
theorem opc_ix : OpC X T b (rIx X.K) oIx := fun ρ σ H env M d1 d2 v1 v2 R Q rs p1 p2 h p => by
  unfold oIx at h
  split at h
  · split at h
    · rename_i l i _ d e
      obtain ⟨a, vs, ea, t, r⟩ := p1
      obtain ⟨v, e1, e2⟩ := r.atI e
      exact .inr (.inl ⟨a, vs, i, v, ea, p2, t.sq, e1, p d M v H ρ h rs (Stp.refl _ _) e2⟩)
    · exact h.elim
  · split at h
    · rename_i l i _ d e
      obtain ⟨a, vs, ea, t, r⟩ := p1
      obtain ⟨v, e1, e2⟩ := r.atI e
      exact .inl ⟨a, vs, i, v, ea, p2, t.sq, e1, p d M v H ρ h rs (Stp.refl _ _) e2⟩
    · exact h.elim
  · split at h
    · split at h
      · rename_i n i _ l eM _ d e
        obtain ⟨a, ea, hn⟩ := p1
        obtain ⟨vs, q1, r⟩ := rs.m.obs n _ a eM hn
        obtain ⟨v, e1, e2⟩ := r.atI e
        exact .inl ⟨a, vs, i, v, ea, p2, .inl (.inl q1), e1, p d M v H ρ h rs (Stp.refl _ _) e2⟩
      · exact h.elim
    · exact h.elim
  · split at h
    · rename_i z i _ k e
      exact .inr (.inr ⟨z, i, k, p1, p2, h.1, e, p _ M _ H ρ h.2 rs (Stp.refl _ _) rfl⟩)
    · exact h.elim
  · exact h.elim
theorem q_sub1 {k : Nat} (hr : Room k X.A) (ha : QE X T b a wa) (hc : QE X T b c wc) (hs : PlainIx c := by exact fun _ _ => rfl) : QE X T b (.Subscript a c pos) (wBin oAt wa wc) :=
  q_ix (IxR.or ix_seq (ix_dk (by have := hr.units; omega))) (fun ρ σ H env M d1 d2 v1 v2 R Q rs p1 p2 h p => by
    unfold oAt at h
    split at h
    · rename_i n
      split at h
      · rename_i m em
        split at h
        · rename_i k ek
          split at h
          · rename_i d ed
            obtain ⟨q, eq, hn⟩ := p1
            obtain ⟨kvs, g1, g2⟩ := tbl_rd rs.m em hn
            obtain ⟨v, h1, h2⟩ := (g2.val k).1 d ed
            exact .inr ⟨q, v, eq, .inl ⟨kvs, k, g1, p2.key ek, h1.symm⟩, p d M v H ρ h rs (Stp.refl _ _) h2⟩
          · exact h.elim
        · exact h.elim
      · exact .inl (opc_ix ρ σ H env M _ d2 v1 v2 R Q rs p1 p2 h p)
    · exact .inl (opc_ix ρ σ H env M d1 d2 v1 v2 R Q rs p1 p2 h p)) ha hc hs

/-- d.get(k, x) -/
def wGet2 (wo we wf : WE) : WE := fun env M R => wo env M fun x M1 => match x with
  | .loc n => match tblAt M1 n with
    | some _ => we env M1 fun y M2 => wf env M2 fun z M3 => match tblAt M3 n, y.key with
      | some m, some k => R ((valD m k).getD z) M3
      | _, _ => False
    | none => False
  | _ => False
theorem q_get2 {k : Nat} (hr : Room k X.A) (ho : QE X T b o wo) (he : QE X T b e we) (hf : QE X T b f wc) (m : M2 X o "get" apos e f cpos) : QE X T b (.Call (.Attribute o "get" apos) [e, f] [] cpos) (wGet2 wo we wc) :=
  ⟨PE.weak (pe_dget2 (by have := hr.units; omega) ho.pe he.pe hf.pe m) fun σ H Q ⟨ρ, env, M, R, rs, hw, p⟩ => lift_go rs hw fun x M1 u1 H1 ρ1 h1 r1 s1 p1 => by
    cases x with
    | loc n =>
      obtain ⟨q, eq, hn⟩ := p1
      cases e1 : tblAt M1 n with
      | none => simp only [e1] at h1
      | some m0 =>
        simp only [e1] at h1
        obtain ⟨kvs, g1, g2⟩ := tbl_rd r1.m e1 hn
        refine ⟨q, eq, .inl ⟨kvs, g1⟩, lift_go r1 h1 fun y M2 u2 H2 ρ2 h2 r2 s2 p2 => lift_go r2 h2 fun z M3 u3 H3 ρ3 h3 r3 s3 p3 => ?_⟩
        cases e3 : tblAt M3 n with
        | none => simp only [e3] at h3
        | some m3 =>
          cases ek : y.key with
          | none => simp only [e3, ek] at h3
          | some k =>
            simp only [e3, ek] at h3
            obtain ⟨kvs3, g1', g2'⟩ := tbl_rd r3.m e3 (pre_get (s2.trans s3).pre hn)
            refine ⟨valV kvs3 k, .inl ⟨kvs3, k, g1', (p2.stp s3).key ek, rfl⟩, ?_⟩
            have hv := g2'.val k
            refine p _ M3 _ H3 ρ3 h3 r3 (s1.trans (s2.trans s3)) ?_
            cases ev : valD m3 k with
            | none => rw [hv.2 ev]; exact p3
            | some d =>
              obtain ⟨v, w1, w2⟩ := hv.1 d ev
              rw [w1]
              exact w2
    | _ => exact h1.elim⟩
/-- k in d, k not in d -/
def wIn (neg : Bool) (we wo : WE) : WE := fun env M R => we env M fun y M1 => wo env M1 fun x M2 => match x with
  | .loc n => match tblAt M2 n, y.key with
    | some m, some k => R (.bl (xor neg (valD m k).isSome)) M2
    | _, _ => False
  | _ => False
theorem in_go {neg : Bool} (h : lift X T b (wIn neg we wo) σ H Q) : lift X T b we σ H fun y H1 => lift X T b wo σ H1 fun x H2 => ∃ a o, x = .ref a ∧ DGet H2 a y o ∧ Q (.bl (xor neg o.isSome)) H2 := by
  obtain ⟨ρ, env, M, R, rs, hw, p⟩ := h
  refine lift_go rs hw fun y M1 u1 H1 ρ1 h1 r1 s1 p1 => lift_go r1 h1 fun x M2 u2 H2 ρ2 h2 r2 s2 p2 => ?_
  cases x with
  | loc n =>
    obtain ⟨q, eq, hn⟩ := p2
    cases e3 : tblAt M2 n with
    | none => simp only [e3] at h2
    | some m3 =>
      cases ek : y.key with
      | none => simp only [e3, ek] at h2
      | some k =>
        simp only [e3, ek] at h2
        obtain ⟨kvs3, g1', g2'⟩ := tbl_rd r2.m e3 hn
        refine ⟨q, valV kvs3 k, eq, .inl ⟨kvs3, k, g1', (p1.stp s2).key ek, rfl⟩, ?_⟩
        have hv := g2'.val k
        have : (valV kvs3 k).isSome = (valD m3 k).isSome := by
          cases ev : valD m3 k with
          | none => rw [hv.2 ev]; rfl
          | some d =>
            obtain ⟨v, w1, w2⟩ := hv.1 d ev
            rw [w1]
            rfl
        rw [this]
        exact p _ M2 _ H2 ρ2 h2 r2 (s1.trans s2) rfl
  | _ => exact h2.elim
theorem q_inT {k : Nat} (hr : Room k X.A) (he : QE X T b e we) (ho : QE X T b o wo) (hm : behindInMarks .In o = false := by first | exact nomark _ | rfl) : True := trivial

/-! ### calls of builtins -/
abbrev RA := List D → Mem → (D → Mem → Prop) → Prop
def CalC (X : Cx) (T : List Addr) (b : Bool) (r : List V → Hp → VK → Prop) (o : RA) : Prop := ∀ ρ σ H env M ds vs R Q, RelS X T b ρ σ H env M → Rps X.K ρ H ds vs → o ds M R → Post X T b ρ σ H env R Q → r vs H Q
def wCB (o : RA) (w : WA) : WE := fun env M R => w env M fun ds M1 => o ds M1 R
theorem lift_cb {r : List V → Hp → VK → Prop} {o : RA} {w : WA} (h : CalC X T b r o) {Q : VK} (q : lift X T b (wCB o w) σ H Q) : tCB r (liftA X T b w) σ H Q := by
  obtain ⟨ρ, env, M, R, rs, hw, p⟩ := q
  exact liftA_go rs hw fun ds M1 vs H1 ρ1 h1 r1 s1 p1 => h ρ1 σ H1 env M1 ds vs R Q r1 p1 h1 (p.then (R' := R) s1)
theorem q_callB {x : Str} {id : String} {r : List V → Hp → VK → Prop} {ob : RA} {es : List Expr} {w : WA} {p : Pos} (hc : CallR X (.builtin id) r) (h : CalC X T b r ob) (hg : Gl X x) (hm : X.mg x = none) (hv : bootBuiltins x = some (.builtin id)) (ha : QA X T b (e :: es) w) (hn : x ≠ "__name__" := by decide) (hdb : (x == ("__debug__" : Str)) = false := by decide)
    (he : starEach (e :: es) X.env = (false, eval e X.env) :: starEach es X.env := by rfl) (hpl : (backTo pos (starEach es X.env)).any (·.1) = false := by rfl) : QE X T b (.Call (.Name x p) (e :: es) [] pos) (wCB ob w) :=
  ⟨PE.weak (pe_callB hc hg hm hv ha.pa hn hdb he hpl) fun σ H Q q => lift_cb h q⟩
theorem q_callTy {x : Str} {id : String} {r : List V → Hp → VK → Prop} {ob : RA} {es : List Expr} {w : WA} {p : Pos} (hc : CallR X (.type id) r) (h : CalC X T b r ob) (hg : Gl X x) (hm : X.mg x = none) (hv : bootBuiltins x = some (.type id)) (ha : QA X T b (e :: es) w) (hn : x ≠ "__name__" := by decide) (hdb : (x == ("__debug__" : Str)) = false := by decide)
    (he : starEach (e :: es) X.env = (false, eval e X.env) :: starEach es X.env := by rfl) (hpl : (backTo pos (starEach es X.env)).any (·.1) = false := by rfl) : QE X T b (.Call (.Name x p) (e :: es) [] pos) (wCB ob w) :=
  ⟨PE.weak (pe_callTy hc hg hm hv ha.pa hn hdb he hpl) fun σ H Q q => lift_cb h q⟩
theorem rps1 {K : PySem.W.Frag} {d : D} {vs : List V} (h : Rps K ρ H [d] vs) : ∃ v, vs = [v] ∧ Rp K ρ H d v := by
  obtain ⟨v, r, e, h1, h2⟩ := h
  have h2 : r = [] := h2
  subst h2
  exact ⟨v, e, h1⟩
theorem rps2 {K : PySem.W.Frag} {d d' : D} {vs : List V} (h : Rps K ρ H [d, d'] vs) : ∃ v v', vs = [v, v'] ∧ Rp K ρ H d v ∧ Rp K ρ H d' v' := by
  obtain ⟨v, r, e, h1, h2⟩ := h
  obtain ⟨v', e', h2'⟩ := rps1 h2
  subst e'
  exact ⟨v, v', e, h1, h2'⟩
def cAbs : RA := fun ds M R => match ds with
  | [.int i] => R (.int (if i < 0 then -i else i)) M
  | _ => False
theorem q_abs {w : WA} {p : Pos} (hg : Gl X "abs") (hm : X.mg "abs" = none) (ha : QA X T b [e] w) (he : starEach [e] X.env = (false, eval e X.env) :: starEach [] X.env := by rfl) : QE X T b (.Call (.Name "abs" p) [e] [] pos) (wCB cAbs w) :=
  q_callB call_abs (fun ρ σ H env M ds vs R Q rs rp h p => by
    match ds, h with
    | [.int i], h =>
      obtain ⟨v, rfl, h1⟩ := rps1 rp
      obtain rfl : v = .int i := h1
      exact ⟨i, rfl, p _ M _ H ρ h rs (Stp.refl _ _) rfl⟩) hg hm rfl ha (by decide) (by decide) he
def cInt : RA := fun ds M R => match ds with
  | [.int i] => R (.int i) M
  | [.bl k] => R (.int (if k then 1 else 0)) M
  | _ => False
theorem q_intc {w : WA} {p : Pos} (hg : Gl X "int") (hm : X.mg "int" = none) (ha : QA X T b [e] w) (he : starEach [e] X.env = (false, eval e X.env) :: starEach [] X.env := by rfl) : QE X T b (.Call (.Name "int" p) [e] [] pos) (wCB cInt w) :=
  q_callTy call_int1 (fun ρ σ H env M ds vs R Q rs rp h p => by
    match ds, h with
    | [.int i], h =>
      obtain ⟨v, rfl, h1⟩ := rps1 rp
      obtain rfl : v = .int i := h1
      exact .inl ⟨i, rfl, p _ M _ H ρ h rs (Stp.refl _ _) rfl⟩
    | [.bl i], h =>
      obtain ⟨v, rfl, h1⟩ := rps1 rp
      obtain rfl : v = .bl i := h1
      exact .inr ⟨i, rfl, p _ M _ H ρ h rs (Stp.refl _ _) rfl⟩) hg hm rfl ha (by decide) (by decide) he
/-- len -/
def cLen : RA := fun ds M R => match ds with
  | [.tup l] => R (.int l.length) M
  | [.rol l] => R (.int l.length) M
  | [.str z] => z.length ≤ sizeLine ∧ R (.int z.length) M
  | [.loc n] => match M[n]? with
    | some (.lst l) => R (.int l.length) M
    | some (.dK m) => R (.int m.length) M
    | _ => False
  | _ => False
theorem callR_or {f : Value} {r r' : List V → Hp → VK → Prop} (h : CallR X f r) (h' : CallR X f r') : CallR X f fun xs H Q => r xs H Q ∨ r' xs H Q := fun pins s σ H xs us Q I rv q => by
  rcases q with q | q
  · exact h pins s σ H xs us Q I rv q
  · exact h' pins s σ H xs us Q I rv q
theorem q_len {w : WA} {p : Pos} (hg : Gl X "len") (hm : X.mg "len" = none) (ha : QA X T b [e] w) (he : starEach [e] X.env = (false, eval e X.env) :: starEach [] X.env := by rfl) : QE X T b (.Call (.Name "len" p) [e] [] pos) (wCB cLen w) :=
  q_callB (callR_or call_len call_lenD) (fun ρ σ H env M ds vs R Q rs rp h p => by
    match ds, h with
    | [.tup l], h =>
      obtain ⟨v, rfl, a, us, e, t, r⟩ := rps1 rp
      exact .inl ⟨v, us.length, rfl, by rw [e]; exact .inr ⟨us, t.sq, rfl⟩, by rw [r.length]; exact p _ M _ H ρ h rs (Stp.refl _ _) rfl⟩
    | [.rol l], h =>
      obtain ⟨v, rfl, a, us, e, t, r⟩ := rps1 rp
      exact .inl ⟨v, us.length, rfl, by rw [e]; exact .inl ⟨us, t.sq, rfl⟩, by rw [r.length]; exact p _ M _ H ρ h rs (Stp.refl _ _) rfl⟩
    | [.str z], h =>
      obtain ⟨v, rfl, h1⟩ := rps1 rp
      obtain rfl : v = .str z := h1
      exact .inl ⟨_, _, rfl, ⟨h.1, rfl⟩, p _ M _ H ρ h.2 rs (Stp.refl _ _) rfl⟩
    | [.loc n], h =>
      obtain ⟨v, rfl, a, e, hn⟩ := rps1 rp
      subst e
      have h : (match M[n]? with
        | some (.lst l) => R (.int l.length) M
        | some (.dK m) => R (.int m.length) M
        | _ => False) := h
      cases eM : M[n]? with
      | none => simp only [eM] at h
      | some ob => cases ob with
        | lst l =>
          simp only [eM] at h
          obtain ⟨us, q1, q2⟩ := rs.m.obs n _ a eM hn
          exact .inl ⟨.ref a, us.length, rfl, .inl ⟨us, .inl (.inl q1), rfl⟩, by rw [q2.length]; exact p _ M _ H ρ h rs (Stp.refl _ _) rfl⟩
        | dK m =>
          simp only [eM] at h
          obtain ⟨us, q1, q2⟩ := rs.m.obs n _ a eM hn
          exact .inr ⟨a, us, rfl, q1, by rw [q2.length]; exact p _ M _ H ρ h rs (Stp.refl _ _) rfl⟩
        | _ => simp only [eM] at h) hg hm rfl ha (by decide) (by decide) he
/-! ### truth -/
def D.truth (d : D) (M : Mem) : Option Bool := match d with
  | .non => some false
  | .bl k => some k
  | .int i => some (i != 0)
  | .str _ => none
  | .tup l => some (!l.isEmpty)
  | .rol l => some (!l.isEmpty)
  | .loc n => match M[n]? with
    | some (.lst l) => some (!l.isEmpty)
    | some (.dK m) => some (!m.isEmpty)
    | _ => none
def wTru (w : WE) : WT := fun env M R => w env M fun d M1 => match d.truth M1 with
  | some k => R k M1
  | none => False
theorem len_empty {α β : Type} {xs : List α} {ys : List β} (h : xs.length = ys.length) : xs.isEmpty = ys.isEmpty := by
  cases xs <;> cases ys <;> first | rfl | (simp at h)
theorem q_tru (ha : QE X T b a wa) (hs : ∀ (whole : Sem Value), PySem.isTrue a X.env whole = (do
    let v ← whole
    standAt a.pos
    holding [v] (truthy v)) := by intro _; rfl) : QT X T b a (wTru wa) :=
  ⟨PT.weak (pt_truth ha.pe hs) fun σ H Q ⟨ρ, env, M, R, rs, hw, p⟩ => lift_go rs hw fun d M1 v H1 ρ1 h1 r1 s1 p1 => by
    cases e : d.truth M1 with
    | none => simp only [e] at h1
    | some k =>
      simp only [e] at h1
      refine ⟨k, ?_, p k M1 H1 ρ1 h1 r1 s1⟩
      cases d with
      | non => cases e; rw [show v = .non from p1]; exact rfl
      | bl k => cases e; rw [show v = .bl k from p1]; exact rfl
      | int i => cases e; rw [show v = .int i from p1]; exact rfl
      | str x => cases e
      | tup l =>
        obtain ⟨q, us, ev, t, r⟩ := p1
        cases e
        subst ev
        exact .inr (.inl ⟨us, t.sq, by rw [len_empty r.length]⟩)
      | rol l =>
        obtain ⟨q, us, ev, t, r⟩ := p1
        cases e
        subst ev
        exact .inl ⟨us, t.sq, by rw [len_empty r.length]⟩
      | loc n =>
        obtain ⟨q, ev, hn⟩ := p1
        subst ev
        unfold D.truth at e
        cases eM : M1[n]? with
        | none => simp only [eM] at e; cases e
        | some ob => cases ob with
          | lst l =>
            simp only [eM] at e
            cases e
            obtain ⟨us, q1, q2⟩ := r1.m.obs n _ q eM hn
            exact .inl ⟨us, .inl (.inl q1), by rw [len_empty q2.length]⟩
          | dK m =>
            simp only [eM] at e
            cases e
            obtain ⟨us, q1, q2⟩ := r1.m.obs n _ q eM hn
            exact .inr (.inr ⟨us, q1, by rw [len_empty q2.length]⟩)
          | _ => simp only [eM] at e; cases e⟩
end
end R3
set_option Elab.async false
set_option linter.all false
set_option maxRecDepth 100000
set_option maxHeartbeats 2000000
namespace R3
open PySem PySem.Spec PyProof.Rows L2 Gx

/-! ### isinstance -/
inductive Ty where
  | non | bool | int | str | tup | lst | dct
  deriving DecidableEq
def Ty.nm : Ty → String
  | .non => "NoneType" | .bool => "bool" | .int => "int" | .str => "str" | .tup => "tuple" | .lst => "list" | .dct => "dict"
def Ty.sub : Ty → Ty → Bool
  | .non, .non => true | .bool, .bool => true | .bool, .int => true | .int, .int => true | .str, .str => true | .tup, .tup => true | .lst, .lst => true | .dct, .dct => true
  | _, _ => false
theorem Ty.kit (K : PySem.W.Frag) (t c : Ty) : PySem.W.kitOne K (.type t.nm) (.type c.nm) = some (t.sub c) := by
  cases t <;> cases c <;> rfl
def D.ty (M : Mem) : D → Option Ty
  | .non => some .non
  | .bl _ => some .bool
  | .int _ => some .int
  | .str _ => some .str
  | .tup _ => some .tup
  | .rol _ => none
  | .loc n => match M[n]? with
    | some (.lst _) => some .lst
    | some (.dK _) => some .dct
    | some (.dT _) => some .dct
    | _ => none
section
variable {X : Cx} {T : List Addr} {b : Bool} {ρ ρ' : List Addr} {σ : Sg} {H H' : Hp} {env : Env3} {M : Mem}
variable {o i e a c f : Expr} {wo wi we wa wc : WE} {pos apos cpos : Pos}
theorem Rp.tyx {K : PySem.W.Frag} (r : RelM K T ρ H M) {d : D} {v : V} {t : Ty} (p : Rp K ρ H d v) (h : d.ty M = some t) : TyX K H v (.type t.nm) := by
  cases d with
  | non => cases h; rw [show v = .non from p]; exact .base .non
  | bl k => cases h; rw [show v = .bl k from p]; exact .base (.bl k)
  | int k => cases h; rw [show v = .int k from p]; exact .base (.int k)
  | str k => cases h; rw [show v = .str k from p]; exact .base (.str k)
  | rol l => cases h
  | tup l =>
    cases h
    obtain ⟨a, vs, e, t, _⟩ := p
    subst e
    rcases t with t | ⟨o, its, n, h1, h2, _⟩
    · exact .base (.tup t)
    · exact .kTuple h1 h2
  | loc n =>
    obtain ⟨a, e, hn⟩ := p
    subst e
    unfold D.ty at h
    cases eM : M[n]? with
    | none => simp only [eM] at h; cases h
    | some ob => cases ob with
      | lst l => simp only [eM] at h; cases h; obtain ⟨vs, q1, _⟩ := r.obs n _ a eM hn; exact .base (.lst q1)
      | dK l => simp only [eM] at h; cases h; obtain ⟨vs, q1, _⟩ := r.obs n _ a eM hn; exact .base (.dK q1)
      | dT l => simp only [eM] at h; cases h; obtain ⟨vs, q1, _⟩ := r.obs n _ a eM hn; exact .base (.dT q1)
      | _ => simp only [eM] at h; cases h
def wIsi (c : Ty) (w : WE) : WE := fun env M R => w env M fun d M1 => match d.ty M1 with
  | some t => R (.bl (t.sub c)) M1
  | none => False
theorem q_isi (ct : Ty) {x : Str} {p p2 : Pos} (hg : Gl X "isinstance") (hm : X.mg "isinstance" = none) (hgx : Gl X x) (hmx : X.mg x = none) (hv : bootBuiltins x = some (.type ct.nm)) (he : QE X T b e we)
    (hs1 : starEach [e, .Name x p2] X.env = (false, eval e X.env) :: starEach [.Name x p2] X.env := by rfl) (hs2 : starEach [.Name x p2] X.env = (false, eval (.Name x p2) X.env) :: starEach [] X.env := by rfl)
    (hpl : (backTo pos (starEach [.Name x p2] X.env)).any (·.1) = false := by rfl) (hn : x ≠ "__name__" := by decide) (hd : (x == ("__debug__" : Str)) = false := by decide) : QE X T b (.Call (.Name "isinstance" p) [e, .Name x p2] [] pos) (wIsi ct we) :=
  ⟨PE.weak (pe_callB call_isi hg hm boot_isinstance (pa_cons he.pe (pa_cons (pe_bltn (v := .ty ct.nm) hgx hmx hv rfl hn hd) pa_nil hs2) hs1) (by decide) (by decide) hs1 hpl) fun σ H Q ⟨ρ, env, M, R, rs, hw, p⟩ => lift_go rs hw fun d M1 v H1 ρ1 h1 r1 s1 p1 => by
    cases et : d.ty M1 with
    | none => simp only [et] at h1
    | some t =>
      simp only [et] at h1
      exact ⟨v, .ty ct.nm, .type t.nm, .type ct.nm, t.sub ct, rfl, .ty _, p1.tyx r1.m et, Ty.kit _ _ _, p _ M1 _ H1 ρ1 h1 r1 s1 rfl⟩⟩
/-! ### and, or, not as values -/
def wAndV (wa wb : WE) : WE := fun env M R => wa env M fun x M1 => match x with
  | .bl true => wb env M1 R
  | .bl false => R (.bl false) M1
  | _ => False
def wOrV (wa wb : WE) : WE := fun env M R => wa env M fun x M1 => match x with
  | .bl true => R (.bl true) M1
  | .bl false => wb env M1 R
  | _ => False
def wNotV (wa : WE) : WE := fun env M R => wa env M fun x M1 => match x with
  | .bl k => R (.bl (!k)) M1
  | _ => False
theorem q_oneV {op} (h : QE X T b a wa) : QE X T b (.BoolOp op [a] pos) wa := ⟨pe_one h.pe⟩
theorem q_andV {rest : List Expr} (ha : QE X T b a wa) (hc : QE X T b (.BoolOp .And (c :: rest) pos) wc) : QE X T b (.BoolOp .And (a :: c :: rest) pos) (wAndV wa wc) :=
  ⟨PE.weak (pe_and ha.pe hc.pe) fun σ H Q ⟨ρ, env, M, R, rs, hw, p⟩ => lift_go rs hw fun d M1 v H1 ρ1 h1 r1 s1 p1 => by
    cases d with
    | bl k =>
      refine ⟨k, p1, ?_⟩
      cases k with
      | true => exact lift_go r1 h1 (p.then (R' := R) s1)
      | false => exact p _ M1 _ H1 ρ1 h1 r1 s1 rfl
    | _ => exact h1.elim⟩
theorem q_orV {rest : List Expr} (ha : QE X T b a wa) (hc : QE X T b (.BoolOp .Or (c :: rest) pos) wc) : QE X T b (.BoolOp .Or (a :: c :: rest) pos) (wOrV wa wc) :=
  ⟨PE.weak (pe_or ha.pe hc.pe) fun σ H Q ⟨ρ, env, M, R, rs, hw, p⟩ => lift_go rs hw fun d M1 v H1 ρ1 h1 r1 s1 p1 => by
    cases d with
    | bl k =>
      refine ⟨k, p1, ?_⟩
      cases k with
      | false => exact lift_go r1 h1 (p.then (R' := R) s1)
      | true => exact p _ M1 _ H1 ρ1 h1 r1 s1 rfl
    | _ => exact h1.elim⟩
theorem q_notV (ha : QE X T b a wa) : QE X T b (.UnaryOp .Not a pos) (wNotV wa) :=
  ⟨PE.weak (pe_not ha.pe) fun σ H Q ⟨ρ, env, M, R, rs, hw, p⟩ => lift_go rs hw fun d M1 v H1 ρ1 h1 r1 s1 p1 => by
    cases d with
    | bl k => exact ⟨k, p1, p _ M1 _ H1 ρ1 h1 r1 s1 rfl⟩
    | _ => exact h1.elim⟩

/-! ### lists: pop, reverse, +, == [] -/
def wPop (wo : WE) : WE := fun env M R => wo env M fun x M1 => match x with
  | .loc n => match M1[n]?.bind Ob.seq with
    | some l => match l.getLast? with
      | some d => R d (M1.set n (.lst l.dropLast))
      | none => False
    | none => False
  | _ => False
theorem Rps.dropLast {K : PySem.W.Frag} {ds : List D} {vs : List V} (h : Rps K ρ H ds vs) : Rps K ρ H ds.dropLast vs.dropLast := by
  rw [List.dropLast_eq_take, List.dropLast_eq_take, h.length]
  exact h.take _
theorem q_pop (ho : QE X T b o wo) (hbase : attributeBase o "pop" X.env (eval o X.env) = eval o X.env := by rfl) (hl : (apos.endLine == cpos.line) = true := by rfl) : QE X T b (.Call (.Attribute o "pop" apos) [] [] cpos) (wPop wo) :=
  ⟨PE.weak (pe_bm0 PySem.F.plainAttrs_list PySem.F.slot_list_pop PySem.F.type_list_pop (fun pins s σ H x xs v us Q I r1 r2 h => mt_pop pins s σ H x xs v us Q I r1 r2 h) ho.pe hbase hl) fun σ H Q ⟨ρ, env, M, R, rs, hw, p⟩ => lift_go rs hw fun x M1 u1 H1 ρ1 h1 r1 s1 p1 => by
    cases x with
    | loc n =>
      obtain ⟨q, eq, hn⟩ := p1
      cases e1 : M1[n]?.bind Ob.seq with
      | none => simp only [e1] at h1
      | some l =>
        simp only [e1] at h1
        cases e2 : l.getLast? with
        | none => simp only [e2] at h1
        | some d =>
          simp only [e2] at h1
          obtain ⟨vs, q1, q2⟩ := r1.m.obs n _ q (seq_at e1) hn
          subst eq
          rw [List.getLast?_eq_getElem?] at e2
          obtain ⟨v, g1, g2⟩ := q2.get e2
          refine ⟨.inl ⟨rfl, vs, .inl (.inl q1)⟩, q, vs, v, rfl, rfl, q1, by rw [q2.length]; exact g1, ?_⟩
          have st : Stp ρ1 H1 ρ1 (upd H1 q (.lst vs.dropLast)) := Stp.soft q1 trivial (List.mem_of_getElem? hn)
          obtain ⟨r3, s3⟩ := r1.put (o' := .lst vs.dropLast) (ob := .lst l.dropLast) hn q1 trivial ⟨_, upd_same, q2.dropLast.stp st⟩
          exact p _ _ _ _ ρ1 h1 r3 (s1.trans s3) (g2.stp st)
    | _ => exact h1.elim⟩
def wReverse (wo : WE) : WE := fun env M R => wo env M fun x M1 => match x with
  | .loc n => match M1[n]?.bind Ob.seq with
    | some l => R .non (M1.set n (.lst l.reverse))
    | none => False
  | _ => False
theorem q_reverse (ho : QE X T b o wo) (hbase : attributeBase o "reverse" X.env (eval o X.env) = eval o X.env := by rfl) (hl : (apos.endLine == cpos.line) = true := by rfl) : QE X T b (.Call (.Attribute o "reverse" apos) [] [] cpos) (wReverse wo) :=
  ⟨PE.weak (pe_bm0 PySem.F.plainAttrs_list PySem.F.slot_list_reverse PySem.F.type_list_reverse (fun pins s σ H x xs v us Q I r1 r2 h => mt_reverse pins s σ H x xs v us Q I r1 r2 h) ho.pe hbase hl) fun σ H Q ⟨ρ, env, M, R, rs, hw, p⟩ => lift_go rs hw fun x M1 u1 H1 ρ1 h1 r1 s1 p1 => by
    cases x with
    | loc n =>
      obtain ⟨q, eq, hn⟩ := p1
      cases e1 : M1[n]?.bind Ob.seq with
      | none => simp only [e1] at h1
      | some l =>
        simp only [e1] at h1
        obtain ⟨vs, q1, q2⟩ := r1.m.obs n _ q (seq_at e1) hn
        subst eq
        refine ⟨.inl ⟨rfl, vs, .inl (.inl q1)⟩, q, vs, rfl, rfl, q1, ?_⟩
        have st : Stp ρ1 H1 ρ1 (upd H1 q (.lst vs.reverse)) := Stp.soft q1 trivial (List.mem_of_getElem? hn)
        obtain ⟨r3, s3⟩ := r1.put (o' := .lst vs.reverse) (ob := .lst l.reverse) hn q1 trivial ⟨_, upd_same, q2.reverse.stp st⟩
        exact p _ _ _ _ ρ1 h1 r3 (s1.trans s3) rfl
    | _ => exact h1.elim⟩
/-- two new lists in one -/
def wCat (wa wb : WL) : WL := fun env M R => wa env M fun xs M1 => wb env M1 fun ys M2 => xs.length + ys.length ≤ sizeLine ∧ R (xs ++ ys) M2
theorem q_cat {wa wb : WL} (ha : QL X T b a wa) (hc : QL X T b c wb) : QL X T b (.BinOp a .Add c pos) (wCat wa wb) :=
  ⟨PE.weak (pe_op op_cat ha.pe hc.pe) fun σ H Q ⟨ρ, env, M, R, rs, hw, p⟩ => ⟨ρ, env, M, _, rs, hw, fun xs M1 vs H1 ρ1 a h1 r1 s1 e0 n1 e1 rl1 => ⟨ρ1, env, M1, _, r1, h1, fun ys M2 us H2 ρ2 c h2 r2 s2 f0 n2 e2 rl2 => by
    obtain ⟨g1, g2⟩ := s2.oth a _ e1 n1 fun ps z => (by cases z)
    refine ⟨a, c, vs, us, rfl, rfl, g1, e2, by rw [rl1.length, rl2.length]; exact h2.1, fun q hq => ?_⟩
    have ex : Ext3 H2 (upd H2 q (.lst (vs ++ us))) := Ext3.new hq
    have nq := new_notin r2.m hq
    have hq0 : H q = none := (s1.trans s2).was0 (fun z => nq ((s1.trans s2).pre.subset z)) hq
    exact p _ M2 _ _ ρ2 q h2.2 (r2.ext ex) ((s1.trans s2).trans ex.stp) hq0 nq upd_same (((rl1.stp s2).append rl2).stp ex.stp)⟩⟩⟩
theorem pys_len : ∀ {ds : List D} {ps : List PyData}, D.pys ds = some ps → ps.isEmpty = ds.isEmpty
  | [], ps, h => by cases h; rfl
  | d :: ds, ps, h => by
    unfold D.pys at h
    split at h
    · cases h; rfl
    · cases h
/-- x == [], x != [] : a list of the memory -/
def wEmp (neg : Bool) (w : WE) : WT := fun env M R => w env M fun d M1 => match d with
  | .loc n => match M1[n]?.bind Ob.seq with
    | some l => match D.pys l with
      | some ps => SeqAt.shaped (.list ps) = true ∧ R (xor neg l.isEmpty) M1
      | none => False
    | none => False
  | _ => False
theorem lift_mono {w : WE} {Q Q' : VK} (h : lift X T b w σ H Q) (k : ∀ v H', Q v H' → Q' v H') : lift X T b w σ H Q' := by
  obtain ⟨ρ, env, M, R, rs, hw, p⟩ := h
  exact ⟨ρ, env, M, R, rs, hw, fun d M' v H' ρ' h1 h2 h3 h4 => k _ _ (p d M' v H' ρ' h1 h2 h3 h4)⟩
theorem emp_go {neg : Bool} {Q : Bool → Hp → Prop} (h : liftT X T b (wEmp neg wa) σ H Q) : lift X T b wa σ H fun x H1 => tLst tNil σ H1 fun y H2 => ∃ d e, Dp X.K H2 x d ∧ Dp X.K H2 y e ∧ SeqAt.shaped d = true ∧ SeqAt.shaped e = true ∧ Q (xor neg (PyData.eqv d e)) H2 := by
  obtain ⟨ρ, env, M, R, rs, hw, p⟩ := h
  refine lift_go rs hw fun d M1 v H1 ρ1 h1 r1 s1 p1 => ?_
  refine ⟨Nat.zero_le _, fun q hq => ?_⟩
  have ex : Ext3 H1 (upd H1 q (.lst [])) := Ext3.new hq
  cases d with
  | loc n =>
    obtain ⟨a, eq, hn⟩ := p1
    subst eq
    cases e1 : M1[n]?.bind Ob.seq with
    | none => simp only [e1] at h1
    | some l =>
      simp only [e1] at h1
      cases e2 : D.pys l with
      | none => simp only [e2] at h1
      | some ps =>
        simp only [e2] at h1
        obtain ⟨vs, q1, q2⟩ := r1.m.obs n _ a (seq_at e1) hn
        have hs : SeqAt.shaped (.list []) = true := by decide
        have ev : PyData.eqv (.list ps) (.list []) = l.isEmpty := by
          rw [← pys_len e2]
          cases ps <;> rfl
        refine ⟨.list ps, .list [], .lst (.inl (.inl (ex _ _ q1))) (Rps.dp l vs ps (q2.stp ex.stp) e2), .lst (.inl (.inl upd_same)) .nil, h1.1, hs, ?_⟩
        rw [ev]
        exact p _ M1 _ ρ1 h1.2 (r1.ext ex) (s1.trans ex.stp)
  | _ => exact h1.elim
theorem q_eqNil {k kk : Nat} {pl : Pos} (hr : Room k X.A) (ha : QE X T b a wa) (hm : behindInMarks .Eq (.List [] pl) = false := by first | exact nomark _ | rfl) : QT X T b (.Compare a [.Eq] [.List [] pl] pos) (wEmp false wa) :=
  ⟨PT.weak (pt_cmpR (op_eqD hr.units) ha.pe (pe_lst pa_nil) hm) fun σ H Q h => lift_mono (emp_go h) fun x H1 ⟨h0, h⟩ => ⟨h0, fun q hq => let ⟨d, e, g1, g2, g3, g4, g5⟩ := h q hq; ⟨d, e, g1, g2, g3, g4, _, rfl, by rw [Bool.false_xor] at g5; exact g5⟩⟩⟩
theorem q_neNil {k kk : Nat} {pl : Pos} (hr : Room k X.A) (ha : QE X T b a wa) (hm : behindInMarks .NotEq (.List [] pl) = false := by first | exact nomark _ | rfl) : QT X T b (.Compare a [.NotEq] [.List [] pl] pos) (wEmp true wa) :=
  ⟨PT.weak (pt_cmpR (op_neD hr.units) ha.pe (pe_lst pa_nil) hm) fun σ H Q h => lift_mono (emp_go h) fun x H1 ⟨h0, h⟩ => ⟨h0, fun q hq => let ⟨d, e, g1, g2, g3, g4, g5⟩ := h q hq; ⟨d, e, g1, g2, g3, g4, _, rfl, by rw [Bool.true_xor] at g5; exact g5⟩⟩⟩

/-! ### dict(pairs), sorted(dict), list(dict), list(range) -/
def pairD : D → Option (Key × D)
  | .tup [k, v] => k.key.map fun k => (k, v)
  | _ => none
def pairsD : List D → Option (List (Key × D))
  | [] => some []
  | d :: ds => match pairD d, pairsD ds with
    | some p, some ps => some (p :: ps)
    | _, _ => none
theorem pairs_rel {K : PySem.W.Frag} : ∀ {ds : List D} {vs : List V} {ps : List (Key × D)}, Rps K ρ H ds vs → pairsD ds = some ps → ∃ (as : List Addr) (kvs : List (Key × V)), vs = as.map V.ref ∧ Paired (fun p kv => SqT K H p [kV kv.1, kv.2]) as kvs ∧ RpK K ρ H ps kvs
  | [], vs, ps, h, e => by
    rw [show vs = [] from h]
    cases e
    exact ⟨[], [], rfl, .nil, rfl⟩
  | d :: ds, vs, ps, h, e => by
    obtain ⟨v, r, ev, h1, h2⟩ := h
    subst ev
    unfold pairsD at e
    split at e
    · rename_i p qs e1 e2
      cases e
      obtain ⟨as, kvs, g1, g2, g3⟩ := pairs_rel h2 e2
      unfold pairD at e1
      split at e1
      · rename_i k x
        cases ek : k.key with
        | none => rw [ek] at e1; cases e1
        | some kk =>
          rw [ek] at e1
          cases e1
          obtain ⟨a, us, ea, t, rr⟩ := h1
          obtain ⟨u1, u2, eu, w1, w2⟩ := rps2 rr
          subst ea eu
          have w1 := w1.key ek
          subst w1
          exact ⟨a :: as, (kk, u2) :: kvs, by rw [g1]; rfl, .cons t.sq g2, u2, kvs, rfl, w2, g3⟩
      · cases e1
    · cases e
/-- dict(e), e a new list of pairs -/
def wDictP (w : WL) : WE := fun env M R => w env M fun ds M1 => match pairsD ds with
  | some ps => R (.loc M1.length) (M1 ++ [.dK (mergeD [] ps)])
  | none => False
theorem q_dictP {w : WL} {p : Pos} (hc : X.calm = true) (hg : Gl X "dict") (hm : X.mg "dict" = none) (ha : QL X T b a w) (he : starEach [a] X.env = (false, eval a X.env) :: starEach [] X.env := by rfl) : QE X T b (.Call (.Name "dict" p) [a] [] pos) (wDictP w) :=
  ⟨PE.weak (pe_callTy (call_dictP hc) hg hm rfl (pa_cons ha.pe pa_nil he) (by decide) (by decide) he) fun σ H Q ⟨ρ, env, M, R, rs, hw, p⟩ => ⟨ρ, env, M, _, rs, hw, fun ds M1 vs H1 ρ1 q h1 r1 s1 e0 n1 e1 rl => by
    cases ep : pairsD ds with
    | none => simp only [ep] at h1
    | some ps =>
      simp only [ep] at h1
      obtain ⟨as, kvs, g1, g2, g3⟩ := pairs_rel rl ep
      subst g1
      refine ⟨q, as, kvs, rfl, .inl (.inl e1), g2, fun y hy => ?_⟩
      have ex : Ext3 H1 (upd H1 y (.dK (mergeK [] kvs))) := Ext3.new hy
      have ny := new_notin r1.m hy
      have r2 := r1.ext ex
      have hy0 : H y = none := s1.was0 (fun z => ny (s1.pre.subset z)) hy
      exact p _ _ _ _ (ρ1 ++ [y]) h1 (r2.newO ny ⟨_, upd_same, RpK.merge (RpK.mono (List.prefix_append _ _) (fun _ _ z => Ext3.new hy _ _ z) (fun _ _ _ z => Ext3.new hy _ _ z) _ _ g3) rfl⟩) ((s1.trans ex.stp).new hy0) (loc_new r1.m)⟩⟩
/-- all keys are ints -/
def intKeys : List (Key × D) → Option (List Int)
  | [] => some []
  | (.inl i, _) :: r => (intKeys r).map (i :: ·)
  | (.inr _, _) :: _ => none
theorem intKeys_rel {K : PySem.W.Frag} : ∀ {m : List (Key × D)} {kvs : List (Key × V)} {ks : List Int}, RpK K ρ H m kvs → intKeys m = some ks → kvs.map (fun x => x.1) = ks.map Sum.inl
  | [], kvs, ks, h, e => by
    rw [show kvs = [] from h]
    cases e
    rfl
  | (.inl i, d) :: r, kvs, ks, h, e => by
    obtain ⟨v, us, ev, h1, h2⟩ := h
    subst ev
    unfold intKeys at e
    obtain ⟨ks', e1, e2⟩ := Option.map_eq_some_iff.mp e
    subst e2
    rw [List.map_cons, List.map_cons, intKeys_rel h2 e1]
  | (.inr i, d) :: r, kvs, ks, h, e => by
    unfold intKeys at e
    cases e
/-- sorted(d), d a dict of few int keys -/
def wSortD (w : WE) : WL := fun env M R => w env M fun d M1 => match d with
  | .loc n => match tblAt M1 n with
    | some m => match intKeys m with
      | some ks => ks.length < 64 ∧ ∀ ys : List Int, ys.Perm ks → ys.Pairwise (· ≤ ·) → R (ys.map D.int) M1
      | none => False
    | none => False
  | _ => False
theorem q_sortD {p : Pos} (hc : X.calm = true) (hg : Gl X "sorted") (hm : X.mg "sorted" = none) (ha : QE X T b a wa) (he : starEach [a] X.env = (false, eval a X.env) :: starEach [] X.env := by rfl) : QL X T b (.Call (.Name "sorted" p) [a] [] pos) (wSortD wa) :=
  ⟨PE.weak (pe_callB (call_sortedDI hc) hg hm rfl (pa_cons ha.pe pa_nil he) (by decide) (by decide) he) fun σ H Q ⟨ρ, env, M, R, rs, hw, p⟩ => lift_go rs hw fun d M1 v H1 ρ1 h1 r1 s1 p1 => by
    cases d with
    | loc n =>
      obtain ⟨q, eq, hn⟩ := p1
      subst eq
      cases e1 : tblAt M1 n with
      | none => simp only [e1] at h1
      | some m =>
        simp only [e1] at h1
        cases e2 : intKeys m with
        | none => simp only [e2] at h1
        | some ks =>
          simp only [e2] at h1
          obtain ⟨kvs, g1, g2⟩ := tbl_rd r1.m e1 hn
          refine ⟨q, kvs, ks, rfl, g1, intKeys_rel g2 e2, h1.1, fun ys y hp hs hy => ?_⟩
          have ex : Ext3 H1 (upd H1 y (.lst (ys.map V.int))) := Ext3.new hy
          have ny := new_notin r1.m hy
          exact p _ M1 _ _ ρ1 y (h1.2 ys hp hs) (r1.ext ex) (s1.trans ex.stp) (s1.was0 (fun z => ny (s1.pre.subset z)) hy) ny upd_same (Rps.of_ints ys)
    | _ => exact h1.elim⟩
/-- list(range(a, c)) -/
theorem rgV_D {K : PySem.W.Frag} (i j : Int) : Rps K ρ H (rgD i (j - i).toNat) (rgV i j) := by
  have : rgD i (j - i).toNat = ((List.range (j - i).toNat).map fun (k : Nat) => i + (k : Int)).map D.int := by
    unfold rgD
    rw [List.map_map]
    rfl
  rw [this]
  have e2 : rgV i j = ((List.range (j - i).toNat).map fun (k : Nat) => i + (k : Int)).map V.int := by
    unfold rgV
    rw [List.map_map]
    rfl
  rw [e2]
  exact Rps.of_ints _
def wLrg (wa wb : WE) : WL := fun env M R => wa env M fun x M1 => wb env M1 fun y M2 => match x, y with
  | .int i, .int j => RgOk i j ∧ R (rgD i (j - i).toNat) M2
  | _, _ => False
theorem q_lrg {p p2 pos2 : Pos} (hc : X.calm = true) (hg : Gl X "list") (hm : X.mg "list" = none) (hg2 : Gl X "range") (hm2 : X.mg "range" = none) (ha : QE X T b a wa) (hb : QE X T b c wc) (na : starEach [.Call (.Name "range" p2) [a, c] [] pos2] X.env = (false, eval (.Call (.Name "range" p2) [a, c] [] pos2) X.env) :: starEach [] X.env := by rfl)
    (na2 : starEach [a, c] X.env = (false, eval a X.env) :: starEach [c] X.env := by rfl) (na3 : starEach [c] X.env = (false, eval c X.env) :: starEach [] X.env := by rfl) (na4 : (backTo pos2 (starEach [c] X.env)).any (·.1) = false := by rfl) : QL X T b (.Call (.Name "list" p) [.Call (.Name "range" p2) [a, c] [] pos2] [] pos) (wLrg wa wc) :=
  ⟨PE.weak (pe_listRg hc hg hm (prg_2 hg2 hm2 ha.pe hb.pe na2 na3 na4) na) fun σ H Q ⟨ρ, env, M, R, rs, hw, p⟩ => lift_go rs hw fun x M1 v H1 ρ1 h1 r1 s1 p1 => lift_go r1 h1 fun y M2 u H2 ρ2 h2 r2 s2 p2 => by
    cases x with
    | int i => cases y with
      | int j =>
        refine ⟨i, j, p1, p2, h2.1, fun q hq => ?_⟩
        have ex : Ext3 H2 (upd H2 q (.lst (rgV i j))) := Ext3.new hq
        have nq := new_notin r2.m hq
        exact p _ M2 _ _ ρ2 q h2.2 (r2.ext ex) ((s1.trans s2).trans ex.stp) ((s1.trans s2).was0 (fun z => nq ((s1.trans s2).pre.subset z)) hq) nq upd_same (rgV_D i j)
      | _ => exact h2.elim
    | _ => exact h2.elim⟩
/-! ### a, b, c = .. -/
def wPar3 (i j l : Nat) (w : WA) : WS := fun E env M => w env M fun ds M1 => match ds with
  | [d, d', d''] => E.nx (((env.set i (some d)).set j (some d')).set l (some d'')) M1
  | _ => False
theorem rps3 {K : PySem.W.Frag} {d d' d'' : D} {vs : List V} (h : Rps K ρ H [d, d', d''] vs) : ∃ v v' v'', vs = [v, v', v''] ∧ Rp K ρ H d v ∧ Rp K ρ H d' v' ∧ Rp K ρ H d'' v'' := by
  obtain ⟨v, r, e, h1, h2⟩ := h
  obtain ⟨v', v'', e', h2', h3'⟩ := rps2 h2
  subst e'
  exact ⟨v, v', v'', e, h1, h2', h3'⟩
theorem q_par3 {i j l : Nat} {x y z : Str} {a c f : Expr} {w : WA} {px py pz pt : Pos} {kt k2 pt2} {pos : Pos} (hc : X.calm = true) (hN : X.N.Nodup) (hi : X.N[i]? = some x) (hj : X.N[j]? = some y) (hl : X.N[l]? = some z) (hij : i ≠ j) (hil : i ≠ l) (hjl : j ≠ l)
    (hx : X.env.scope.names.lookup x = some .local) (hy : X.env.scope.names.lookup y = some .local) (hz : X.env.scope.names.lookup z = some .local) (ha : QA X T b [a, c, f] w)
    (hw : swappedStores [.Tuple [.Name x px, .Name y py, .Name z pz] kt pt] (.Tuple [a, c, f] k2 pt2) X.env = pure (some [x, y, z]))
    (hs : swapsWithSole [.Tuple [.Name x px, .Name y py, .Name z pz] kt pt] (.Tuple [a, c, f] k2 pt2) pos.line X.env = pure false := by rfl) :
    QS X T b (.Assign [.Tuple [.Name x px, .Name y py, .Name z pz] kt pt] (.Tuple [a, c, f] k2 pt2) pos) (wPar3 i j l w) :=
  ⟨PS.weak (ps_par3 hc hN hi hj hl hij hil hjl hx hy hz ha.pa hw hs) fun D' σ H ⟨ρ, env, M, E, rs, hw, p⟩ => liftA_go rs hw fun ds M1 vs H1 ρ1 h1 r1 s1 p1 => by
    rcases ds with _ | ⟨d, _ | ⟨d', _ | ⟨d'', _ | ⟨d3, ds⟩⟩⟩⟩
    · exact h1.elim
    · exact h1.elim
    · exact h1.elim
    · obtain ⟨v, v', v'', ev, q1, q2, q3⟩ := rps3 p1
      exact ⟨v, v', v'', ev, p.nx _ M1 _ H1 ρ1 h1 (((r1.set i q1).set j q2).set l q3) s1⟩
    · exact h1.elim⟩
/-! ### while -/
def wWhile (t : WT) (wb : WS) : WS := fun E env M => ∃ W : Nat → Env3 → Mem → Prop, (∃ m, W m env M) ∧ ∀ m env M, W m env M →
  t env M fun c M1 => if c = true then wb { nx := fun e' M' => ∃ m', m' < m ∧ W m' e' M', rt := E.rt, bk := E.nx, ct := fun e' M' => ∃ m', m' < m ∧ W m' e' M' } env M1 else E.nx env M1
theorem while_go {t : WT} {wb : WS} {D' : Ends} (h : liftS X T b (wWhile t wb) D' σ H) : tWhile (liftT X T b t) (liftS X T b wb) D' σ H := by
  obtain ⟨ρ, env, M, E, rs, ⟨W, ⟨m0, h0⟩, step⟩, p⟩ := h
  unfold tWhile
  refine ⟨fun m σ' H' => ∃ ρ' env' M', RelS X T b ρ' σ' H' env' M' ∧ Stp ρ H ρ' H' ∧ W m env' M', ⟨m0, ρ, env, M, rs, Stp.refl _ _, h0⟩, ?_⟩
  rintro m σ' H' ⟨ρ', env', M', r', s', hW⟩
  obtain st := step m env' M' hW
  refine liftT_go r' st ?_
  intro k M1 H1 ρ1 h1 r1 s1
  have s01 := s'.trans s1
  cases k with
  | true =>
    rw [if_pos rfl] at h1
    rw [if_pos rfl]
    refine ⟨fun σ2 H2 => ∃ m', m' < m ∧ ∃ ρ2 env2 M2, RelS X T b ρ2 σ2 H2 env2 M2 ∧ Stp ρ H ρ2 H2 ∧ W m' env2 M2, fun σ2 H2 ⟨m', hm', q⟩ => ⟨m', hm', q⟩, ?_⟩
    exact liftS_go r1 h1 ⟨fun a c d e f ⟨m', hm', hW'⟩ k2 k3 => ⟨m', hm', f, a, c, k2, s01.trans k3, hW'⟩, fun a c d e f k1 k2 k3 k4 => p.rt a c d e f k1 k2 (s01.trans k3) k4, fun a c d e f k1 k2 k3 => p.nx a c d e f k1 k2 (s01.trans k3), fun a c d e f ⟨m', hm', hW'⟩ k2 k3 => ⟨m', hm', f, a, c, k2, s01.trans k3, hW'⟩⟩
  | false =>
    rw [if_neg (by decide)] at h1
    rw [if_neg (by decide)]
    exact p.nx _ _ _ _ _ h1 r1 s01
theorem q_while {body : List Stmt} {t : WT} {wb : WS} (hp : PassesOwn (model X.prog X.w) X.A X.env X.xe) (hc : QT X T b c t) (hb : QB X T b body wb) : QS X T b (.While c body [] pos) (wWhile t wb) :=
  ⟨PS.weak (ps_while hp hc.pt hb.pss) fun D' σ H h => while_go h⟩
end
end R3
set_option Elab.async false
set_option linter.all false
set_option maxRecDepth 100000
set_option maxHeartbeats 2000000
namespace R3
open PySem PySem.Spec PyProof.Rows L2 Gx

section
variable {X : Cx} {T : List Addr} {b : Bool} {ρ ρ' : List Addr} {σ : Sg} {H H' : Hp} {env : Env3} {M : Mem}
variable {o i e a c f : Expr} {wo wi we wa wc : WE} {pos apos cpos tpos : Pos}

/-! ### a dict is locked while it is walked -/
def wLock (w : WS) : WS := fun E env M => ∃ n m, M[n]? = some (.dK m) ∧ w { nx := fun e' M' => M'[n]? = some (.lkK m) ∧ E.nx e' (M'.set n (.dK m)), rt := fun d M' => M'[n]? = some (.lkK m) ∧ E.rt d (M'.set n (.dK m)), bk := fun e' M' => M'[n]? = some (.lkK m) ∧ E.bk e' (M'.set n (.dK m)), ct := fun e' M' => M'[n]? = some (.lkK m) ∧ E.ct e' (M'.set n (.dK m)) } env (M.set n (.lkK m))
theorem unlock_go {n : Nat} {m : List (Key × D)} {q : Addr} {od : Obj} {kvs : List (Key × V)} {M' : Mem} (hn : ρ[n]? = some q) (e0 : H q = some (.dK kvs)) (s : Stp ρ (upd H q (.frz od (.dK kvs))) ρ' H') (r : RelM X.K T ρ' H' M') (e : M'[n]? = some (.lkK m)) :
    H' q = some (.frz od (.dK kvs)) ∧ RelM X.K T ρ' (upd H' q (.dK kvs)) (M'.set n (.dK m)) ∧ Stp ρ H ρ' (upd H' q (.dK kvs)) ∧ (∀ x xs, H' x = some (.tup xs) → upd H' q (.dK kvs) x = some (.tup xs)) ∧ (∀ x o xs, H' x = some (.frz o (.lst xs)) → upd H' q (.dK kvs) x = some (.frz o (.lst xs))) ∧ (∀ x c P, H' x = some (codeH c P) → upd H' q (.dK kvs) x = some (codeH c P)) ∧ (∀ P, TabA H' P → TabA (upd H' q (.dK kvs)) P) := by
  have eq : H' q = some (.frz od (.dK kvs)) := s.frz q od _ upd_same
  have ne : ∀ {x : Addr} {u : HO}, H' x = some u → u ≠ .frz od (.dK kvs) → upd H' q (.dK kvs) x = some u := fun {x u} h z => by
    rw [upd_ne (fun y => by rw [y, eq] at h; exact z (Option.some.inj h).symm)]
    exact h
  have ht : ∀ x xs, H' x = some (.tup xs) → upd H' q (.dK kvs) x = some (.tup xs) := fun x xs h => ne h fun z => nomatch z
  have hf : ∀ x o xs, H' x = some (.frz o (.lst xs)) → upd H' q (.dK kvs) x = some (.frz o (.lst xs)) := fun x o xs h => ne h fun z => (by cases z)
  have hT : ∀ P, TabA H' P → TabA (upd H' q (.dK kvs)) P := fun P h => tabA_upd eq (fun ps z => nomatch z) (fun c P z => by unfold codeH at z; cases z) P h
  have hC : ∀ x c P, H' x = some (codeH c P) → upd H' q (.dK kvs) x = some (codeH c P) := fun x c P h => ne h fun z => by unfold codeH at z; cases z
  have hn' := pre_get s.pre hn
  obtain ⟨o2, kvs2, g1, g2⟩ := r.obs n _ q e hn'
  rw [eq] at g1
  cases g1
  refine ⟨eq, r.put0 hn' ht hf hT ⟨kvs, upd_same, RpK.mono (List.prefix_refl _) ht hf _ _ g2⟩, ?_, ht, hf, hC, hT⟩
  have ini : ∀ {x : Addr} {u : HO}, H x = some u → u ≠ .dK kvs → upd H q (.frz od (.dK kvs)) x = some u := fun {x u} h z => by
    rw [upd_ne (fun y => by rw [y, e0] at h; exact z (Option.some.inj h).symm)]
    exact h
  have qm : q ∈ ρ := List.mem_of_getElem? hn
  refine ⟨s.pre, fun x xs h => ht _ _ (s.tup x xs (ini h fun z => nomatch z)), fun P h => hT P (s.tab P (soft_tabs e0 trivial P h)), fun x c P h => hC _ _ _ (s.code x c P (ini h fun z => by unfold codeH at z; cases z)), fun x c u h => ?_, fun x u h hx => ?_⟩
  · have hx : x ≠ q := fun z => by rw [z, e0] at h; cases h
    rw [upd_ne hx]
    refine s.frz x c u ?_
    rw [upd_ne hx]
    exact h
  · have hxq : x ≠ q := fun z => hx (by rw [z]; exact qm)
    have := s.oth0 x u (by rw [upd_ne hxq]; exact h) hx
    rw [upd_ne hxq]
    exact this
theorem q_lock {st : Stmt} {w : WS} (h : QS X T b st w) : QS X T b st (wLock w) :=
  ⟨PS.weak (ps_lock h.ps) fun D' σ H ⟨ρ, env, M, E, rs, ⟨n, m, eM, hw⟩, p⟩ => by
    have hl : n < ρ.length := by rw [rs.m.len]; exact (List.getElem?_eq_some_iff.mp eM).1
    have hn := List.getElem?_eq_getElem hl
    obtain ⟨kvs, g1, g2⟩ := rs.m.obs n _ _ eM hn
    refine ⟨_, _, g1, trivial, fun od => ?_⟩
    have st : Stp ρ H ρ (upd H ρ[n] (.frz od (.dK kvs))) := Stp.soft g1 trivial (List.mem_of_getElem? hn)
    obtain ⟨r1, s1⟩ := rs.put (o' := .frz od (.dK kvs)) (ob := .lkK m) hn g1 trivial ⟨od, kvs, upd_same, g2.stp st⟩
    have back : ∀ {ρ' H' M' env' σ'}, RelS X T b ρ' σ' H' env' M' → Stp ρ (upd H ρ[n] (.frz od (.dK kvs))) ρ' H' → M'[n]? = some (.lkK m) → H' ρ[n] = some (.frz od (.dK kvs)) ∧ RelS X T b ρ' σ' (upd H' ρ[n] (.dK kvs)) env' (M'.set n (.dK m)) ∧ Stp ρ H ρ' (upd H' ρ[n] (.dK kvs)) := fun {ρ' H' M' env' σ'} r s e => by
      obtain ⟨k1, k2, k3, k4, k5, k6, k7⟩ := unlock_go hn g1 s r.m e
      refine ⟨k1, ⟨k2, ⟨r.e.len, fun i d h => let ⟨v, h1, h2⟩ := r.e.at_ i d h; ⟨v, h1, Rp.mono (List.prefix_refl _) k4 k5 _ _ h2⟩⟩, fun hb => ?_⟩, k3⟩
      obtain ⟨c, P, h1, h2, h3⟩ := r.c hb
      exact ⟨c, P, h1, h2.imp (fun z => z) fun z => k6 _ _ _ z, k7 _ h3⟩
    refine liftS_go r1 hw ⟨fun env' M' σ' H' ρ' h1 h2 h3 => ?_, fun d M' v H' ρ' h1 h2 h3 h4 => ?_, fun env' M' σ' H' ρ' h1 h2 h3 => ?_, fun env' M' σ' H' ρ' h1 h2 h3 => ?_⟩
    · obtain ⟨k1, k2, k3⟩ := back h2 h3 h1.1
      exact ⟨k1, p.nx _ _ _ _ _ h1.2 k2 k3⟩
    · obtain ⟨k1, k2, k3, k4, k5, _⟩ := unlock_go hn g1 h3 h2 h1.1
      exact ⟨k1, p.rt _ _ _ _ _ h1.2 k2 k3 (Rp.mono (List.prefix_refl _) k4 k5 _ _ h4)⟩
    · obtain ⟨k1, k2, k3⟩ := back h2 h3 h1.1
      exact ⟨k1, p.bk _ _ _ _ _ h1.2 k2 k3⟩
    · obtain ⟨k1, k2, k3⟩ := back h2 h3 h1.1
      exact ⟨k1, p.ct _ _ _ _ _ h1.2 k2 k3⟩⟩

/-! ### what is walked: dicts, enumerate -/
def keysD (m : List (Key × D)) : List D := m.map fun p => kD p.1
def itemsD (m : List (Key × D)) : List D := m.map fun p => .tup [kD p.1, p.2]
def lkAt (M : Mem) (n : Nat) : Option (List (Key × D)) := match M[n]? with
  | some (.lkK m) => some m
  | _ => none
theorem lk_at {n : Nat} {m : List (Key × D)} (h : lkAt M n = some m) : M[n]? = some (.lkK m) := by
  unfold lkAt at h
  split at h
  · cases h; assumption
  · cases h
def wKeys (f : List (Key × D) → List D) (w : WE) : WI := fun env M R => w env M fun d M1 => match d with
  | .loc n => match lkAt M1 n with
    | some m => R ⟨f m, fun M' => M'[n]? = some (.lkK m)⟩ M1
    | none => False
  | _ => False
theorem q_keys {tg : Expr} (h : QE X T b e we) : QI X T b tg e (wKeys keysD we) := ⟨PI.weak (pi_keys h.pe) fun σ H R ⟨ρ, env, M, RI, rs, hw, p⟩ => lift_go rs hw fun d M1 v H1 ρ1 h1 r1 s1 p1 => by
  cases d with
  | loc n =>
    obtain ⟨q, eq, hn⟩ := p1
    cases em : lkAt M1 n with
    | none => simp only [em] at h1
    | some m =>
      simp only [em] at h1
      obtain ⟨od, kvs, g1, g2⟩ := r1.m.obs n _ q (lk_at em) hn
      refine ⟨q, od, eq, .inl ⟨kvs, g1, p _ M1 ρ1 H1 _ h1 r1 s1 fun i ρ2 H2 M2 s2 r2 ok => ⟨fun d ed => ?_, fun hle => ⟨s2.frz _ _ _ g1, by rw [g2.length]; simpa [keysD] using hle⟩⟩⟩⟩
      unfold keysD at ed
      simp only [List.getElem?_map] at ed
      obtain ⟨⟨k, x⟩, e1, e2⟩ := Option.map_eq_some_iff.mp ed
      subst e2
      have hi : i < kvs.length := by rw [g2.length]; exact (List.getElem?_eq_some_iff.mp e1).1
      refine ⟨⟨s2.frz _ _ _ g1, hi⟩, fun x' H' hy => ?_⟩
      obtain ⟨rfl, k', v', ek, rfl⟩ := hy
      obtain ⟨u, f1, f2⟩ := g2.get e1
      rw [ek] at f1
      cases f1
      exact ⟨Ext3.refl _, Rp.ofKey k⟩
  | _ => exact h1.elim⟩
theorem q_items {elts : List Expr} {kk : Nat} (h : QE X T b e we) (hbase : attributeBase e "items" X.env (eval e X.env) = eval e X.env := by rfl) (hline : (apos.endLine == cpos.line) = true := by rfl) :
    QI X T b (.Tuple elts kk tpos) (.Call (.Attribute e "items" apos) [] [] cpos) (wKeys itemsD we) := ⟨PI.weak (pi_items h.pe hbase hline) fun σ H R ⟨ρ, env, M, RI, rs, hw, p⟩ => lift_go rs hw fun d M1 v H1 ρ1 h1 r1 s1 p1 => by
  cases d with
  | loc n =>
    obtain ⟨q, eq, hn⟩ := p1
    cases em : lkAt M1 n with
    | none => simp only [em] at h1
    | some m =>
      simp only [em] at h1
      obtain ⟨od, kvs, g1, g2⟩ := r1.m.obs n _ q (lk_at em) hn
      refine ⟨q, od, kvs, eq, g1, p _ M1 ρ1 H1 _ h1 r1 s1 fun i ρ2 H2 M2 s2 r2 ok => ⟨fun d ed => ?_, fun hle => ⟨s2.frz _ _ _ g1, by rw [g2.length]; simpa [itemsD] using hle⟩⟩⟩
      unfold itemsD at ed
      simp only [List.getElem?_map] at ed
      obtain ⟨⟨k, x⟩, e1, e2⟩ := Option.map_eq_some_iff.mp ed
      subst e2
      have hi : i < kvs.length := by rw [g2.length]; exact (List.getElem?_eq_some_iff.mp e1).1
      refine ⟨⟨s2.frz _ _ _ g1, hi⟩, fun x' H' hy => ?_⟩
      obtain ⟨t, k', v', ek, rfl, hT, rfl⟩ := hy
      obtain ⟨u, f1, f2⟩ := g2.get e1
      rw [ek] at f1
      cases f1
      have ex : Ext3 H2 (upd H2 t (.tup [kV k, v'])) := Ext3.new hT
      exact ⟨ex, t, [kV k, v'], rfl, .inl upd_same, kV k, [v'], rfl, Rp.ofKey k, v', [], rfl, (f2.stp s2).stp ex.stp, rfl⟩
  | _ => exact h1.elim⟩
def enD : Nat → List D → List D
  | _, [] => []
  | i, d :: r => .tup [.int (i : Int), d] :: enD (i + 1) r
theorem enD_get : ∀ {l : List D} {j i : Nat} {d : D}, (enD j l)[i]? = some d → ∃ x, l[i]? = some x ∧ d = .tup [.int ((j + i : Nat) : Int), x]
  | [], j, i, d, h => by simp [enD] at h
  | x :: r, j, 0, d, h => ⟨x, rfl, (Option.some.inj h).symm⟩
  | x :: r, j, i + 1, d, h => by
    obtain ⟨y, h1, h2⟩ := enD_get (l := r) (j := j + 1) (i := i) h
    exact ⟨y, h1, by rw [h2]; congr 4; omega⟩
theorem enD_len : ∀ (l : List D) (j : Nat), (enD j l).length = l.length
  | [], j => rfl
  | x :: r, j => by
    show (enD (j + 1) r).length + 1 = r.length + 1
    rw [enD_len r]
def wEnum (w : WA) : WI := fun env M R => w env M fun ds M1 => match ds with
  | [.tup l] => R ⟨enD 0 l, fun _ => True⟩ M1
  | _ => False
theorem q_enumT {w : WA} {elts : List Expr} {kk : Nat} {p : Pos} (hg : Gl X "enumerate") (hm : X.mg "enumerate" = none) (ha : QA X T b [e] w) (hs : starEach [e] X.env = [(false, eval e X.env)] := by rfl) :
    QI X T b (.Tuple elts kk tpos) (.Call (.Name "enumerate" p) [e] [] pos) (wEnum w) := ⟨PI.weak (pi_enumT hg hm ha.pa hs) fun σ H R ⟨ρ, env, M, RI, rs, hw, p⟩ => liftA_go rs hw fun ds M1 vs H1 ρ1 h1 r1 s1 p1 => by
  match ds, h1, p1 with
  | [.tup l], h1, p1 =>
    obtain ⟨v, rfl, a, us, ea, t, r⟩ := rps1 p1
    subst ea
    refine ⟨a, us, rfl, t.sq, p _ M1 ρ1 H1 _ h1 r1 s1 fun i ρ2 H2 M2 s2 r2 ok => ⟨fun d ed => ?_, fun hle => ⟨us, (t.mono s2.tup).sq, by rw [r.length]; simpa [enD_len] using hle⟩⟩⟩
    obtain ⟨x, e1, e2⟩ := enD_get ed
    subst e2
    obtain ⟨v, f1, f2⟩ := (r.stp s2).get e1
    refine ⟨⟨us, v, (t.mono s2.tup).sq, f1⟩, fun y H' hy => ?_⟩
    obtain ⟨q, x', rfl, hq, rfl, hx⟩ := hy
    have := hx us (t.mono s2.tup).sq
    rw [f1] at this
    cases this
    have ex : Ext3 H2 (upd H2 q (.tup [.int (i : Nat), v])) := Ext3.new hq
    exact ⟨ex, q, _, rfl, .inl upd_same, .int (i : Nat), [v], rfl, by rw [Nat.zero_add]; rfl, v, [], rfl, f2.stp ex.stp, rfl⟩⟩

/-! ### {k: v for ..} -/
theorem RelM.apartO {K : PySem.W.Frag} {q : Addr} {o o' : HO} (r : RelM K T ρ H M) (hD : q ∉ ρ) (e : H q = some o) (s : Soft o) : RelM K T ρ (upd H q o') M := by
  have tup : ∀ a xs, H a = some (.tup xs) → upd H q o' a = some (.tup xs) := fun a xs h => soft_ne e s h fun z => z
  have frl : ∀ a c xs, H a = some (.frz c (.lst xs)) → upd H q o' a = some (.frz c (.lst xs)) := fun a c xs h => soft_ne e s h fun z => z
  exact ⟨r.nd, r.len, fun n ob a h1 h2 => RpO.keep (List.prefix_refl _) tup frl (upd_ne fun z => hD (z ▸ List.mem_of_getElem? h2)) (r.obs n ob a h1 h2), fun P hP => soft_tabs e s P (r.tabs P hP)⟩
theorem Stp.apartO {q : Addr} {o o' : HO} (st : Stp ρ H ρ' H') (h0 : H q = none) (e : H' q = some o) (s : Soft o) : Stp ρ H ρ' (upd H' q o') := by
  have ne : ∀ {a u w}, H a = some u → H' a = some w → upd H' q o' a = some w := fun {a u w} h h' => by
    rw [upd_ne (fun z => by rw [z, h0] at h; cases h)]
    exact h'
  refine ⟨st.pre, fun a xs h => ne h (st.tup a xs h), fun P h => soft_tabs e s P (st.tab P h), fun c a P h => ne h (st.code c a P h), fun a o' xs h => ne h (st.frz a o' xs h), fun a u h n => ?_⟩
  obtain ⟨h1, h2⟩ := st.oth0 a u h n
  exact ⟨h1, h2.imp (fun z => ne h z) fun ⟨ps, ps', e, z⟩ => ⟨ps, ps', e, ne h z⟩⟩
def dcW (vs : List Nat) (ok : Mem → Prop) (g : WG) (tt : WT) (tk tv : WE) (env : Env3) (R : D → Mem → Prop) : List D → List (Key × D) → Mem → Prop
  | [], acc, M => ok M ∧ R (.loc M.length) (M ++ [.dK acc])
  | d :: ds, acc, M => ok M ∧ g d (wipeE env vs) M fun env1 M1 => tt env1 M1 fun c M2 => if c = true then tk env1 M2 fun y M3 => tv env1 M3 fun z M4 => acc.length < sizeLine ∧ (match y.key with
      | some k => dcW vs ok g tt tk tv env R ds (putD acc k z) M4
      | none => False) else dcW vs ok g tt tk tv env R ds acc M2
def wDc (vs : List Nat) (wi : WI) (g : WG) (tt : WT) (tk tv : WE) : WE := fun env M R => wi env M fun s M1 => dcW vs s.ok g tt tk tv env R s.items [] M1
theorem dcW_ok {vs : List Nat} {ok : Mem → Prop} {g : WG} {tt : WT} {tk tv : WE} {R : D → Mem → Prop} {ds : List D} {acc : List (Key × D)} (h : dcW vs ok g tt tk tv env R ds acc M) : ok M := by
  cases ds <;> exact h.1
theorem dc_go {wi : WI} {g : WG} {tt : WT} {tk tv : WE} {vs : List Nat} {Q : VK} (h : lift X T b (wDc vs wi g tt tk tv) σ H Q) : tDc (liftI X T b wi) (liftG X T b vs g) (liftT X T b tt) (lift X T b tk) (lift X T b tv) vs σ H Q := by
  obtain ⟨ρ, env, M, R, rs, hw, p⟩ := h
  refine ⟨ρ, env, M, _, rs, hw, fun s M1 ρ1 H1 J h1 r1 s1 hJ => fun Dl hD => ?_⟩
  refine ⟨fun i m H' => ∃ ρ' M' acc accV, RelM X.K T ρ' H' M' ∧ Stp ρ1 H1 ρ' H' ∧ Dl ∉ ρ' ∧ H' Dl = some (.dK accV) ∧ RpK X.K ρ' H' acc accV ∧ m = s.items.length - i ∧ i ≤ s.items.length ∧ dcW vs s.ok g tt tk tv env R (s.items.drop i) acc M',
    ⟨s.items.length, ρ1, M1, [], [], r1.m.ext (Ext3.new hD), (Ext3.new hD).stp, new_notin r1.m hD, upd_same, rfl, by omega, Nat.zero_le _, h1⟩, ?_⟩
  rintro i m H' ⟨ρ', M', acc, accV, r', s', nD, eD, ra, rfl, hle, hf⟩
  obtain ⟨j1, j2⟩ := hJ i ρ' H' M' s' r' (dcW_ok hf)
  by_cases hlt : i < s.items.length
  · rw [List.drop_eq_getElem_cons hlt] at hf
    obtain ⟨go, yl⟩ := j1 _ (List.getElem?_eq_getElem hlt)
    refine .inr ⟨go, fun H2 => ∃ ρ2 M2 acc accV, RelM X.K T ρ2 H2 M2 ∧ Stp ρ1 H1 ρ2 H2 ∧ Dl ∉ ρ2 ∧ H2 Dl = some (.dK accV) ∧ RpK X.K ρ2 H2 acc accV ∧ dcW vs s.ok g tt tk tv env R (s.items.drop (i + 1)) acc M2, fun H2 ⟨ρ2, M2, acc, accV, q1, q2, q3, q4, q5, q6⟩ => ⟨s.items.length - (i + 1), by omega, ρ2, M2, acc, accV, q1, q2, q3, q4, q5, rfl, hlt, q6⟩, fun x H2 hy => ?_⟩
    obtain ⟨e2, rp⟩ := yl x H2 hy
    have s2 : Stp ρ1 H1 ρ' H2 := s'.trans e2.stp
    have rY : RelS X T b ρ' (wipe σ vs) H2 (wipeE env vs) M' := ⟨r'.ext e2, (r1.e.stp s2).wipe vs, r1.c.stp s2⟩
    have eD2 : H2 Dl = some (.dK accV) := e2 _ _ eD
    refine ⟨ρ', wipeE env vs, M', _, s.items[i], rY, rp, hf.2, fun env3 M3 σ3 H3 ρ3 h3 r3 s3 k3 => ⟨k3.wipe.trans (wipe_idem σ vs), ?_⟩⟩
    refine liftT_go r3 h3 fun c M4 H4 ρ4 h4 r4 s4 => ?_
    obtain ⟨eD4, nD4⟩ := (s3.trans s4).oth Dl _ eD2 nD fun ps z => by cases z
    have s14 : Stp ρ1 H1 ρ4 H4 := s2.trans (s3.trans s4)
    have ra4 : RpK X.K ρ4 H4 acc accV := (ra.stp e2.stp).stp (s3.trans s4)
    cases c with
    | false => exact ⟨ρ4, M4, acc, accV, r4.m, s14, nD4, eD4, ra4, h4⟩
    | true =>
      refine lift_go r4 h4 fun y M5 v H5 ρ5 h5 r5 s5 p5 => lift_go r5 h5 fun z M6 u H6 ρ6 h6 r6 s6 p6 => ?_
      obtain ⟨eD6, nD6⟩ := (s5.trans s6).oth Dl _ eD4 nD4 fun ps z => by cases z
      obtain ⟨hz, h6⟩ := h6
      cases ek : y.key with
      | none => simp only [ek] at h6
      | some k =>
        simp only [ek] at h6
        refine ⟨accV, k, (p5.stp s6).key ek, eD6, by rw [ra.length]; exact hz, ρ6, M6, putD acc k z, putK accV k u, r6.m.apartO nD6 eD6 trivial, (s14.trans (s5.trans s6)).apartO hD eD6 trivial, nD6, upd_same, ?_, h6⟩
        refine RpK.mono (List.prefix_refl _) (fun a xs h => soft_ne eD6 trivial h fun z => z) (fun a c xs h => soft_ne eD6 trivial h fun z => z) _ _ ((ra4.stp (s5.trans s6)).put p6)
  · have hi : i = s.items.length := by omega
    subst hi
    rw [List.drop_length] at hf
    have hD0 : H Dl = none := s1.was0 (fun z => nD (s'.pre.subset (s1.pre.subset z))) hD
    refine .inl ⟨j2 (Nat.le_refl _), p _ _ _ H' (ρ' ++ [Dl]) hf.2 ((⟨r', r1.e.stp s', r1.c.stp s'⟩ : RelS X T b ρ' σ H' env M').newO nD ⟨accV, eD, RpK.mono (List.prefix_append _ _) (fun _ _ h => h) (fun _ _ _ h => h) _ _ ra⟩) ((s1.trans s').new hD0) (loc_new r')⟩
theorem q_dc {kx vx tg iter : Expr} {ifs : List Expr} {scope : Scope} {own : List (Str × Nat)} {wi : WI} {g : WG} {tt : WT} {tk tv : WE} (hc : X.calm = true) (hN : X.N.Nodup) (hi : QI X T b tg iter wi) (ok : BlkOk X.N X.env.scope scope own)
    (hg : ∀ (s : Shared) (H : Hp) (C : Addr) (cl : List (Str × Addr)) (fp : List Addr), QG (X.blk s H scope (compEnvC scope cl C X.env) fp) T b (own.map (·.2)) tg g) (ht : ∀ (s : Shared) (H : Hp) (C : Addr) (cl : List (Str × Addr)) (fp : List Addr), QTs (X.blk s H scope (compEnvC scope cl C X.env) fp) T b ifs tt)
    (hk : ∀ (s : Shared) (H : Hp) (C : Addr) (cl : List (Str × Addr)) (fp : List Addr), QE (X.blk s H scope (compEnvC scope cl C X.env) fp) T b kx tk)
    (he : ∀ (s : Shared) (H : Hp) (C : Addr) (cl : List (Str × Addr)) (fp : List Addr), QE (X.blk s H scope (compEnvC scope cl C X.env) fp) T b vx tv) (hs : ∀ x, foldedSetIterable iter X.env x = pure x := by intro _; rfl) :
    QE X T b (.DictComp kx vx [⟨tg, iter, ifs, 0⟩] scope pos) (wDc (own.map (·.2)) wi g tt tk tv) :=
  ⟨PE.weak (pe_dc hc hN hi.pi ok (fun s H C cl fp => PG.weak (hg s H C cl fp).pg fun v σ H Q q => same_blk.symm.g q) (fun s H C cl fp => ⟨fun pins s' σ H' Q I q => (ht s H C cl fp).pts.run pins s' σ H' Q I (same_blk.symm.t q)⟩) (fun s H C cl fp => PE.weak (hk s H C cl fp).pe fun σ H Q q => same_blk.symm.e q) (fun s H C cl fp => PE.weak (he s H C cl fp).pe fun σ H Q q => same_blk.symm.e q) hs) fun σ H Q h => dc_go h⟩

/-! ### f(k = e, ..) -/
theorem pe_callK0 {CX : CXT} {k : Nat} {f : Addr} {fd : FuncData} {ps ks : List Str} {sp : Sp} {E : XK} {x : Str} {p : Pos} {kws : List Keyword} {tk : TA} {g : List Value → List Value → List Value} {gV : List V → List V → List V} (F : FnOk X.prog X.w X.K X.mg X.base CX k f fd ps sp) (hr : Room k X.A) (hg : Gl X x) (hm : X.mg x = some (.ref f)) (hk : PySem.W.keepIn X.K (.ref f) = true) (hb : KBinds X.K fd ps ks g gV) (hx : Passes CX X E)
    (hkw : PK X kws tk) (hall : (backToKw pos (keywordEach kws X.env)).all (·.1.isSome) = true) (hks : (backToKw pos (keywordEach kws X.env)).filterMap (·.1) = ks)
    (hdb : (x == ("__debug__" : Str)) = false) (hpl : ((backTo pos (starEach [] X.env)).any (·.1) || (backToKw pos (keywordEach kws X.env)).any (·.1.isNone)) = false) :
    PE X (.Call (.Name x p) [] kws pos) (fun σ H Q => tk σ H fun zs H2 => sp (gV [] zs) H2 Q E) := by
  refine ⟨fun pins s σ H Q I h => ?_⟩
  refine wpAny_Call_Name_kw (ld_glob I hg hm ?_ hdb)
  refine PySem.W.callWith_KW0 (h₀ := X.base) I.ok.mod.kin hk hall (thn (hkw.run pos pins s σ H _ I h) fun ws s2 ⟨zs, H2, I2, rz, q2⟩ => ⟨I2.kIn, ?_⟩) hpl
  rw [hks]
  exact run_fnk (us := []) (vs := []) F hr hb hx I2 .nil rz q2
/-- the keywords' values, from the left -/
structure QK (X : Cx) (T : List Addr) (b : Bool) (kws : List Keyword) (w : WA) : Prop where
  pk : PK X kws (liftA X T b w)
theorem PK.weak {kws : List Keyword} {t t' : TA} (h : PK X kws t) (k : ∀ σ H Q, t' σ H Q → t σ H Q) : PK X kws t' := ⟨fun pos pins s σ H Q I q => h.run pos pins s σ H Q I (k _ _ _ q)⟩
theorem q_knil : QK X T b [] wNil := ⟨PK.weak pk_nil fun σ H Q ⟨ρ, env, M, R, rs, hw, p⟩ => p [] M [] H ρ hw rs (Stp.refl _ _) rfl⟩
theorem q_kcons {nm : Option Str} {kpos : Pos} {kws : List Keyword} {w : WE} {r : WA} (h : QE X T b e w) (hr : QK X T b kws r) : QK X T b (⟨nm, e, kpos⟩ :: kws) (wCons w r) :=
  ⟨PK.weak (pk_cons h.pe hr.pk) fun σ H Q ⟨ρ, env, M, R, rs, hw, p⟩ => lift_go rs hw fun d M1 v H1 ρ1 h1 r1 s1 p1 => liftA_go r1 h1 fun ds M2 vs H2 ρ2 h2 r2 s2 p2 => p (d :: ds) M2 (v :: vs) H2 ρ2 h2 r2 (s1.trans s2) ⟨v, vs, rfl, p1.stp s2, p2⟩⟩
def wCallK (S : SP3) (ord : List D → List D) (w : WA) : WE := fun env M R => w env M fun ds M1 => S (ord ds) M1 R
/-- the keywords ks in the parameters' order: by places -/
def perm {α : Type} (ix : List Nat) (l : List α) : List α := ix.filterMap fun i => l[i]?
theorem perm_rps {K : PySem.W.Frag} {ds : List D} {vs : List V} (h : Rps K ρ H ds vs) : ∀ ix : List Nat, Rps K ρ H (perm ix ds) (perm ix vs)
  | [] => rfl
  | i :: ix => by
    have ih := perm_rps h ix
    unfold perm at ih ⊢
    rw [List.filterMap_cons, List.filterMap_cons]
    cases e : ds[i]? with
    | none =>
      have : vs[i]? = none := by
        rw [List.getElem?_eq_none_iff] at e ⊢
        rw [h.length]
        exact e
      rw [this]
      exact ih
    | some d =>
      obtain ⟨v, e1, e2⟩ := h.get e
      rw [e1]
      exact ⟨v, _, rfl, e2, ih⟩
theorem perm_vals {vs : List V} {us : List Value} (h : Vals vs us) : ∀ ix : List Nat, Vals (perm ix vs) (perm ix us)
  | [] => .nil
  | i :: ix => by
    have ih := perm_vals h ix
    unfold perm at ih ⊢
    rw [List.filterMap_cons, List.filterMap_cons]
    cases e : vs[i]? with
    | none =>
      have : us[i]? = none := by
        rw [List.getElem?_eq_none_iff] at e ⊢
        rw [← h.length]
        exact e
      rw [this]
      exact ih
    | some d =>
      obtain ⟨v, e1, e2⟩ := h.get e
      rw [e1]
      exact .cons e2 ih
def permK {α : Type} (n : Nat) (ix : List Nat) (l : List α) : List α := if l.length = n then perm ix l else []
/-- positional values there are none -/
def gK {α : Type} (n : Nat) (ix : List Nat) : List α → List α → List α
  | [], ws => permK n ix ws
  | _ :: _, _ => []
theorem permK_rps {K : PySem.W.Frag} {ds : List D} {vs : List V} (h : Rps K ρ H ds vs) (n : Nat) (ix : List Nat) : Rps K ρ H (permK n ix ds) (permK n ix vs) := by
  unfold permK
  rw [h.length]
  split
  · exact perm_rps h ix
  · exact rfl
theorem gK_vals {vs zs : List V} {us ws : List Value} (r : Vals vs us) (h : Vals zs ws) (n : Nat) (ix : List Nat) : Vals (gK n ix vs zs) (gK n ix us ws) := by
  cases r with
  | nil =>
    show Vals (permK n ix zs) (permK n ix ws)
    unfold permK
    rw [h.length]
    split
    · exact perm_vals h ix
    · exact .nil
  | cons _ _ => exact .nil
/-- f(k = e, ..), keywords alone -/
theorem q_callK0 {k k' n : Nat} {x : Str} {ps ks : List Str} {S : SP3} {ix : List Nat} {kws : List Keyword} {w : WA} {p : Pos} (h : Fn3 X.prog X.w X.K X.mg X.base T k x ps S) (hr : Room k' X.A) (hg : Gl X x) (hkw : QK X T b kws w)
    (hb : ∀ f fd, X.mg x = some (.ref f) → LookF X.K f fd → KBinds X.K fd ps ks (gK n ix) (gK n ix)) (hk : k ≤ k' := by decide) (hdb : (x == ("__debug__" : Str)) = false := by decide)
    (hall : (backToKw pos (keywordEach kws X.env)).all (·.1.isSome) = true := by rfl) (hks : (backToKw pos (keywordEach kws X.env)).filterMap (·.1) = ks := by rfl) (hpl : ((backTo pos (starEach [] X.env)).any (·.1) || (backToKw pos (keywordEach kws X.env)).any (·.1.isNone)) = false := by rfl) :
    QE X T b (.Call (.Name x p) [] kws pos) (wCallK S (permK n ix) w) := by
  obtain ⟨f, fd, h1, h2, h3, h4, h5⟩ := h.ex
  exact ⟨PE.weak (pe_callK0 h2 (hr.mono hk) hg h1 h3 (hb f fd h1 h5) pass0 hkw.pk hall hks hdb hpl) fun σ H Q ⟨ρ, env, M, R, rs, hw, p⟩ => liftA_go rs hw fun ds M1 vs H1 ρ1 h1 r1 s1 p1 =>
    ⟨ρ1, M1, permK n ix ds, R, r1.m, permK_rps p1 n ix, h1, fun d M' v H' ρ' hR hm hs hv => p d M' v H' ρ' hR ⟨hm, r1.e.stp hs, r1.c.stp hs⟩ (s1.trans hs) hv⟩⟩
end
end R3
set_option Elab.async false
set_option linter.all false
set_option maxRecDepth 100000
set_option maxHeartbeats 2000000
namespace R3
open PySem PySem.Spec PyProof.Rows L2 Gx
section
variable {X : Cx} {T : List Addr} {b : Bool} {ρ ρ' : List Addr} {σ : Sg} {H H' : Hp} {env : Env3} {M : Mem}
variable {o i e a c f : Expr} {wo wi we wa wc : WE} {pos apos cpos tpos : Pos}
/-- y = [te for tg in iter if ..] -/
theorem q_setLc {i : Nat} {y : Str} {py : Pos} {elt tg iter : Expr} {ifs : List Expr} {scope : Scope} {own : List (Str × Nat)} {pos spos : Pos} {wi : WI} {g : WG} {tt : WT} {te : WE} (hc : X.calm = true) (hN : X.N.Nodup) (hy : X.N[i]? = some y) (hyl : X.env.scope.names.lookup y = some .local)
    (hsw : swapsWith (.ListComp elt [⟨tg, iter, ifs, 0⟩] scope pos) (some (.Name y py)) spos.line X.env = pure true) (hi : QI X T b tg iter wi) (ok : BlkOk X.N X.env.scope scope own)
    (hg : ∀ (s : Shared) (H : Hp) (C : Addr) (cl : List (Str × Addr)) (fp : List Addr), QG (X.blk s H scope (compEnvC scope cl C X.env) fp) T b (own.map (·.2)) tg g) (ht : ∀ (s : Shared) (H : Hp) (C : Addr) (cl : List (Str × Addr)) (fp : List Addr), QTs (X.blk s H scope (compEnvC scope cl C X.env) fp) T b ifs tt)
    (he : ∀ (s : Shared) (H : Hp) (C : Addr) (cl : List (Str × Addr)) (fp : List Addr), QE (X.blk s H scope (compEnvC scope cl C X.env) fp) T b elt te) (hs : ∀ x, foldedSetIterable iter X.env x = pure x := by intro _; rfl) :
    QS X T b (.Assign [.Name y py] (.ListComp elt [⟨tg, iter, ifs, 0⟩] scope pos) spos) (wAsg (wNew (wLc (own.map (·.2)) wi g tt te)) (wGn i)) :=
  ⟨PS.weak (ps_setLc hc hN hy hyl hsw hi.pi ok (fun s H C cl fp => PG.weak (hg s H C cl fp).pg fun v σ H Q q => same_blk.symm.g q) (fun s H C cl fp => ⟨fun pins s' σ H' Q I q => (ht s H C cl fp).pts.run pins s' σ H' Q I (same_blk.symm.t q)⟩) (fun s H C cl fp => PE.weak (he s H C cl fp).pe fun σ H Q q => same_blk.symm.e q) hs) fun D' σ H ⟨ρ, env, M, E, rs, hw, p⟩ =>
    lc_go (Y := X) rfl (fun _ h => h) ⟨ρ, env, M, _, rs, hw, fun ds M' vs H' ρ' a h1 r1 s1 e0 n1 e1 rl => p.nx _ _ _ H' (ρ' ++ [a]) h1 ((r1.new n1 e1 rl).set i ⟨a, rfl, by rw [← r1.m.len, List.getElem?_append_right (Nat.le_refl _), Nat.sub_self]; rfl⟩) (s1.new e0)⟩⟩
end
end R3
set_option Elab.async false
set_option linter.all false
set_option maxRecDepth 100000
set_option maxHeartbeats 2000000
/-! Pure tools: what a def hands back. -/
namespace R3
open PySem PySem.Spec PyProof.Rows L2 Gx

mutual
/-- no locations -/
def D.nl : D → Prop
  | .tup l => D.nls l
  | .rol l => D.nls l
  | .loc _ => False
  | .non => True
  | .bl _ => True
  | .int _ => True
  | .str _ => True
def D.nls : List D → Prop
  | [] => True
  | d :: ds => d.nl ∧ D.nls ds
end
mutual
theorem D.nl_wf (n : Nat) : ∀ d : D, d.nl → d.wf n
  | .non, _ => trivial
  | .bl _, _ => trivial
  | .int _, _ => trivial
  | .str _, _ => trivial
  | .loc _, h => h.elim
  | .tup l, h => D.nls_wfs n l h
  | .rol l, h => D.nls_wfs n l h
theorem D.nls_wfs (n : Nat) : ∀ l : List D, D.nls l → D.wfs n l
  | [], _ => trivial
  | d :: ds, h => ⟨D.nl_wf n d h.1, D.nls_wfs n ds h.2⟩
end
mutual
theorem D.nl_ren (ix : List Nat) : ∀ d : D, d.nl → d.ren ix = d
  | .non, _ => rfl
  | .bl _, _ => rfl
  | .int _, _ => rfl
  | .str _, _ => rfl
  | .loc _, h => h.elim
  | .tup l, h => congrArg D.tup (D.nls_rens ix l h)
  | .rol l, h => congrArg D.rol (D.nls_rens ix l h)
theorem D.nls_rens (ix : List Nat) : ∀ l : List D, D.nls l → D.rens ix l = l
  | [], _ => rfl
  | d :: ds, h => by
    unfold D.rens
    rw [D.nl_ren ix d h.1, D.nls_rens ix ds h.2]
end
mutual
theorem D.ren_id {n : Nat} {ix : List Nat} (hi : ∀ i, i < n → ix[i]? = some i) : ∀ d : D, d.wf n → d.ren ix = d
  | .non, _ => rfl
  | .bl _, _ => rfl
  | .int _, _ => rfl
  | .str _, _ => rfl
  | .loc m, h => by
    have h : m < n := h
    unfold D.ren
    rw [List.getD_eq_getElem?_getD, hi m h]
    rfl
  | .tup l, h => congrArg D.tup (D.rens_id hi l h)
  | .rol l, h => congrArg D.rol (D.rens_id hi l h)
theorem D.rens_id {n : Nat} {ix : List Nat} (hi : ∀ i, i < n → ix[i]? = some i) : ∀ l : List D, D.wfs n l → D.rens ix l = l
  | [], _ => rfl
  | d :: ds, h => by
    unfold D.rens
    rw [D.ren_id hi d h.1, D.rens_id hi ds h.2]
end
theorem D.renK_id {κ : Type} {n : Nat} {ix : List Nat} (hi : ∀ i, i < n → ix[i]? = some i) (m : List (κ × D)) (h : D.wfK n m) : D.renK ix m = m := by
  unfold D.renK
  conv => rhs; rw [← List.map_id m]
  exact List.map_congr_left fun p hp => by rw [D.ren_id hi p.2 (h p hp)]; rfl
theorem Ob.ren_id {n : Nat} {ix : List Nat} (hi : ∀ i, i < n → ix[i]? = some i) (ob : Ob) (h : ob.wf n) : ob.ren ix = ob := by
  cases ob with
  | lst l => exact congrArg Ob.lst (D.rens_id hi l h)
  | dK m => exact congrArg Ob.dK (D.renK_id hi m h)
  | dT m => exact congrArg Ob.dT (D.renK_id hi m h)
  | lkK m => exact congrArg Ob.lkK (D.renK_id hi m h)
  | lkT m => exact congrArg Ob.lkT (D.renK_id hi m h)
mutual
theorem D.wf_mono {n k : Nat} (hk : n ≤ k) : ∀ d : D, d.wf n → d.wf k
  | .non, _ => trivial
  | .bl _, _ => trivial
  | .int _, _ => trivial
  | .str _, _ => trivial
  | .loc m, h => Nat.lt_of_lt_of_le (show m < n from h) hk
  | .tup l, h => D.wfs_mono hk l h
  | .rol l, h => D.wfs_mono hk l h
theorem D.wfs_mono {n k : Nat} (hk : n ≤ k) : ∀ l : List D, D.wfs n l → D.wfs k l
  | [], _ => trivial
  | d :: ds, h => ⟨D.wf_mono hk d h.1, D.wfs_mono hk ds h.2⟩
end
theorem Ob.wf_mono {n k : Nat} (hk : n ≤ k) (ob : Ob) (h : ob.wf n) : ob.wf k := by
  cases ob with
  | lst l => exact D.wfs_mono hk l h
  | dK m => exact fun p hp => D.wf_mono hk _ (h p hp)
  | dT m => exact fun p hp => D.wf_mono hk _ (h p hp)
  | lkK m => exact fun p hp => D.wf_mono hk _ (h p hp)
  | lkT m => exact fun p hp => D.wf_mono hk _ (h p hp)
theorem range_get {n i : Nat} (h : i < n) : (List.range n)[i]? = some i := List.getElem?_range h
/-- the old things alone are kept -/
theorem shr_take {n : Nat} {M' : Mem} {d : D} (hn : n ≤ M'.length) (hw : wfM n (M'.take n)) (hd : d.nl) : Shr n M' d (M'.take n) d := by
  have hl : (List.range n).length = n := List.length_range
  refine ⟨List.range n, List.nodup_range, fun i hi => range_get hi, by rw [List.length_take, hl]; omega, fun i j ob h1 h2 => ?_, fun j hj => by have := List.mem_range.mp hj; omega, (D.nl_ren _ _ hd).symm, D.nl_wf _ _ hd, by rw [hl]; exact hw⟩
  have hi : i < n := by have := (List.getElem?_eq_some_iff.mp h1).1; omega
  rw [range_get hi] at h1
  have h1 : i = j := Option.some.inj h1
  subst h1
  have hob := hw ob (List.mem_of_getElem? h2)
  rw [List.getElem?_take_of_lt hi] at h2
  rw [h2, Ob.ren_id (fun i hi => range_get hi) ob hob]
/-- nothing of the old has changed, the answer is data alone -/
theorem shr_pre {M M' : Mem} {d : D} (hp : M <+: M') (hw : wfM M.length M) (hd : d.nl) : Shr M.length M' d M d := by
  have e : M'.take M.length = M := (List.prefix_iff_eq_take.mp hp).symm
  have := shr_take (n := M.length) (M' := M') (d := d) hp.length_le (by rw [e]; exact hw) hd
  rw [e] at this
  exact this
/-- one new thing k is kept: it is told as thing n -/
theorem shr_new {n k : Nat} {M' : Mem} {ob : Ob} {d d'' : D} (hk : n ≤ k) (hob : M'[k]? = some ob) (hw : wfM n (M'.take n)) (ho : ob.wf n) (hd : d = d''.ren (List.range n ++ [k])) (hd' : d''.wf (n + 1)) : Shr n M' d (M'.take n ++ [ob]) d'' := by
  have hkl : k < M'.length := (List.getElem?_eq_some_iff.mp hob).1
  have hl : (List.range n).length = n := List.length_range
  have hi : ∀ i, i < n → (List.range n ++ [k])[i]? = some i := fun i h => by rw [List.getElem?_append_left (by rw [hl]; exact h)]; exact range_get h
  have hlt : (M'.take n).length = n := by rw [List.length_take]; omega
  refine ⟨List.range n ++ [k], ?_, hi, by simp [List.length_take]; omega, fun i j ob' h1 h2 => ?_, fun j hj => ?_, hd, by simpa using hd', fun ob' h => ?_⟩
  · refine List.nodup_append.mpr ⟨List.nodup_range, by simp, fun a ha c hc z => ?_⟩
    have h1 := List.mem_range.mp ha
    have h2 := List.mem_singleton.mp hc
    omega
  · by_cases hin : i < n
    · rw [hi i hin] at h1
      have h1 : i = j := Option.some.inj h1
      subst h1
      rw [List.getElem?_append_left (by rw [hlt]; exact hin)] at h2
      have hob' := hw ob' (List.mem_of_getElem? h2)
      rw [List.getElem?_take_of_lt hin] at h2
      rw [h2, Ob.ren_id hi ob' hob']
    · have hie : i = n := by
        have := (List.getElem?_eq_some_iff.mp h1).1
        simp at this
        omega
      subst hie
      rw [List.getElem?_append_right (by rw [hl]; exact Nat.le_refl _), hl, Nat.sub_self] at h1
      rw [List.getElem?_append_right (by rw [hlt]; exact Nat.le_refl _), hlt, Nat.sub_self] at h2
      have h1 : k = j := Option.some.inj h1
      have h2 : ob = ob' := Option.some.inj h2
      subst h1 h2
      rw [hob, Ob.ren_id hi ob ho]
  · rcases List.mem_append.mp hj with h | h
    · have := List.mem_range.mp h
      omega
    · rw [List.mem_singleton.mp h]
      exact hkl
  · have e : (List.range n ++ [k]).length = n + 1 := by simp
    rw [e]
    rcases List.mem_append.mp h with h | h
    · exact Ob.wf_mono (Nat.le_succ n) _ (hw ob' h)
    · rw [List.mem_singleton.mp h]
      exact Ob.wf_mono (Nat.le_succ n) _ ho
/-- at a return -/
theorem ret_pre {M M' : Mem} {d : D} {R : D → Mem → Prop} (hp : M <+: M') (hw : wfM M.length M) (hd : d.nl) (h : R d M) : (ends3 M.length R).rt d M' := ⟨d, M, shr_pre hp hw hd, h⟩
theorem ret_same {M : Mem} {d : D} {R : D → Mem → Prop} (hw : wfM M.length M) (hd : d.nl) (h : R d M) : (ends3 M.length R).rt d M := ret_pre (List.prefix_refl _) hw hd h
theorem take_pre {M G : Mem} : (M ++ G).take M.length = M := by simp
/-- a new thing at a return -/
theorem ret_new {M M' : Mem} {k : Nat} {ob : Ob} {d d'' : D} {R : D → Mem → Prop} (hp : M <+: M') (hw : wfM M.length M) (hk : M.length ≤ k) (hob : M'[k]? = some ob) (ho : ob.wf M.length) (hd : d = d''.ren (List.range M.length ++ [k])) (hd' : d''.wf (M.length + 1)) (h : R d'' (M ++ [ob])) : (ends3 M.length R).rt d M' := by
  have e : M'.take M.length = M := (List.prefix_iff_eq_take.mp hp).symm
  have := shr_new (n := M.length) (M' := M') hk hob (by rw [e]; exact hw) ho hd hd'
  rw [e] at this
  exact ⟨_, _, this, h⟩
theorem ren_new {n k : Nat} : (D.loc n).ren (List.range n ++ [k]) = .loc k := by
  unfold D.ren
  rw [List.getD_eq_getElem?_getD, List.getElem?_append_right (by simp)]
  simp
/-! ### loops -/
/-- a loop by an invariant: Pv of what is left and the state -/
theorem for_inv {ok : Mem → Prop} {g : WG} {wb : WS} {E : Ends3} (Pv : List D → Env3 → Mem → Prop) (hok : ∀ l env M, Pv l env M → ok M) (hend : ∀ env M, Pv [] env M → E.nx env M)
    (hstep : ∀ d l env M (E' : Ends3), Pv (d :: l) env M → (∀ e m, Pv l e m → E'.nx e m) → (∀ e m, Pv l e m → E'.ct e m) → (∀ x m, E.rt x m → E'.rt x m) → (∀ e m, E.nx e m → E'.bk e m) → g d env M fun env1 M1 => wb E' env1 M1) :
    ∀ (l : List D) (env : Env3) (M : Mem), Pv l env M → forW ok g wb E l env M
  | [], env, M, h => ⟨hok _ _ _ h, hend _ _ h⟩
  | d :: l, env, M, h => ⟨hok _ _ _ h, hstep d l env M { E with nx := forW ok g wb E l, ct := forW ok g wb E l, bk := E.nx } h (fun e m z => for_inv Pv hok hend hstep l e m z) (fun e m z => for_inv Pv hok hend hstep l e m z) (fun _ _ z => z) fun _ _ z => z⟩
/-- a comprehension by an invariant: what is left, what is made, the memory -/
theorem lc_inv {vs : List Nat} {ok : Mem → Prop} {g : WG} {tt : WT} {te : WE} {env : Env3} {R : List D → Mem → Prop} (Pv : List D → List D → Mem → Prop) (hok : ∀ l acc M, Pv l acc M → ok M) (hend : ∀ acc M, Pv [] acc M → R acc M)
    (hstep : ∀ d l acc M (Q : List D → Mem → Prop), Pv (d :: l) acc M → (∀ a m, Pv l a m → Q a m) → g d (wipeE env vs) M fun env1 M1 => tt env1 M1 fun c M2 => if c = true then te env1 M2 fun y M3 => acc.length < sizeLine ∧ Q (acc ++ [y]) M3 else Q acc M2) :
    ∀ (l acc : List D) (M : Mem), Pv l acc M → lcW vs ok g tt te env R l acc M
  | [], acc, M, h => ⟨hok _ _ _ h, hend _ _ h⟩
  | d :: l, acc, M, h => ⟨hok _ _ _ h, hstep d l acc M (lcW vs ok g tt te env R l) h fun a m z => lc_inv Pv hok hend hstep l a m z⟩
theorem dc_inv {vs : List Nat} {ok : Mem → Prop} {g : WG} {tt : WT} {tk tv : WE} {env : Env3} {R : D → Mem → Prop} (Pv : List D → List (Key × D) → Mem → Prop) (hok : ∀ l acc M, Pv l acc M → ok M) (hend : ∀ acc M, Pv [] acc M → R (.loc M.length) (M ++ [.dK acc]))
    (hstep : ∀ d l acc M (Q : List (Key × D) → Mem → Prop), Pv (d :: l) acc M → (∀ a m, Pv l a m → Q a m) → g d (wipeE env vs) M fun env1 M1 => tt env1 M1 fun c M2 => if c = true then tk env1 M2 fun y M3 => tv env1 M3 fun z M4 => acc.length < sizeLine ∧ (match y.key with
      | some k => Q (putD acc k z) M4
      | none => False) else Q acc M2) :
    ∀ (l : List D) (acc : List (Key × D)) (M : Mem), Pv l acc M → dcW vs ok g tt tk tv env R l acc M
  | [], acc, M, h => ⟨hok _ _ _ h, hend _ _ h⟩
  | d :: l, acc, M, h => ⟨hok _ _ _ h, hstep d l acc M (dcW vs ok g tt tk tv env R l) h fun a m z => dc_inv Pv hok hend hstep l a m z⟩
/-- while by an invariant and a measure -/
theorem while_inv {t : WT} {wb : WS} {E : Ends3} {env : Env3} {M : Mem} (Pv : Nat → Env3 → Mem → Prop) (n : Nat) (h0 : Pv n env M)
    (step : ∀ n env M (E' : Ends3), Pv n env M → (∀ n' e m, n' < n → Pv n' e m → E'.nx e m) → (∀ n' e m, n' < n → Pv n' e m → E'.ct e m) → (∀ x m, E.rt x m → E'.rt x m) → (∀ e m, E.nx e m → E'.bk e m) → t env M fun c M1 => if c = true then wb E' env M1 else E.nx env M1) : wWhile t wb E env M :=
  ⟨Pv, ⟨n, h0⟩, fun m env M h => step m env M { nx := fun e' M' => ∃ m', m' < m ∧ Pv m' e' M', rt := E.rt, bk := E.nx, ct := fun e' M' => ∃ m', m' < m ∧ Pv m' e' M' } h (fun n' e m h1 h2 => ⟨n', h1, h2⟩) (fun n' e m h1 h2 => ⟨n', h1, h2⟩) (fun _ _ z => z) fun _ _ z => z⟩
/-- a comprehension whose items are made by a function, the memory as it is -/
theorem lc_pure {vs : List Nat} {ok : Mem → Prop} {g : WG} {tt : WT} {te : WE} {env : Env3} {R : List D → Mem → Prop} {M : Mem} (f : D → Option D) (hok : ok M) : ∀ (l acc : List D),
    (∀ d ∈ l, ∀ (K1 : D → Mem → Prop) (K2 : Mem → Prop), (∀ y, f d = some y → K1 y M) → (f d = none → K2 M) → g d (wipeE env vs) M fun env1 M1 => tt env1 M1 fun c M2 => if c = true then te env1 M2 K1 else K2 M2) →
    acc.length + l.length ≤ sizeLine → R (acc ++ l.filterMap f) M → lcW vs ok g tt te env R l acc M
  | [], acc, _, _, hR => ⟨hok, by simpa using hR⟩
  | d :: l, acc, h, hz, hR => by
    rw [List.length_cons] at hz
    refine ⟨hok, h d List.mem_cons_self (fun y M3 => acc.length < sizeLine ∧ lcW vs ok g tt te env R l (acc ++ [y]) M3) (lcW vs ok g tt te env R l acc) (fun y hy => ⟨by omega, ?_⟩) (fun hy => ?_)⟩
    · refine lc_pure f hok l (acc ++ [y]) (fun d' hd' => h d' (List.mem_cons_of_mem _ hd')) (by simp; omega) ?_
      rw [List.filterMap_cons, hy] at hR
      rw [List.append_assoc]
      exact hR
    · refine lc_pure f hok l acc (fun d' hd' => h d' (List.mem_cons_of_mem _ hd')) (by omega) ?_
      rw [List.filterMap_cons, hy] at hR
      exact hR
end R3
set_option Elab.async false
set_option linter.all false
set_option maxRecDepth 100000
set_option maxHeartbeats 2000000
/-! The law's own def: behind its first statement the script is forgotten. -/
namespace R3
open PySem PySem.Spec PyProof.Rows L2 Gx
section
variable {P : Program} {w : World} {K : PySem.W.Frag} {mg : Str → Option Value} {base : Heap} {T : List Addr}
/-- the promise of the law -/
def spLaw (K : PySem.W.Frag) (T : List Addr) : Sp := fun vs H Q _ => ∃ (a : Addr) (ns : List Int), vs = [.ref a] ∧ ns.length ≤ 63 ∧ (∀ P ∈ T, TabA H P) ∧ SqL K H a (ns.map V.int) ∧ ∀ H', Q (.bl true) H'
def nx1 (n : Nat) (G : D → Mem → Prop) : Env3 → Mem → Prop := fun env' M' => env'.length = n ∧ ∃ d d'' M'', env'[1]? = some (some d) ∧ Shr 0 M' d M'' d'' ∧ G d'' M''
def ends1 (n : Nat) (G : D → Mem → Prop) : Ends3 := { nx := nx1 n G, rt := fun _ _ => False }
def endsT : Ends3 := { nx := fun _ _ => False, rt := fun d _ => d = .bl true }
def env2 (n : Nat) (d : D) : Env3 := none :: some d :: List.replicate (n - 2) none
theorem fn_law {x qual : Str} {st st1 : Stmt} {rest : List Stmt} {f : Addr} {fd : FuncData} {N : List Str} {k : Nat} {w1 w2 : WS} {G : D → Mem → Prop} (F : Fun K x qual st f fd) (Sc : FnScope N ["script"] (defScope st)) (hbd : defBody st = st1 :: rest) (hN : 2 ≤ N.length)
    (body : ∀ (cdv : Value) (A : Around) (outer : List Env) (s : Shared) (H : Hp) (E : XK), Room k (A.deeper (envOfC qual (defScope st) s.heap.objs.size f cdv)) →
      QS (cxOf CX0 P w K mg base N qual (defScope st) f cdv A outer s H E).nox T false st1 w1 ∧ QB (cxOf CX0 P w K mg base N qual (defScope st) f cdv A outer s H E).nox T false rest w2)
    (p1 : ∀ sc : List Int, sc.length ≤ 63 → w1 (ends1 N.length G) (start3 N [.rol (sc.map .int)]) [] ∧ w1 (ends1 N.length G) (start3 N [.loc 0]) [.lst (sc.map .int)])
    (p2 : ∀ d M, G d M → w2 endsT (env2 N.length d) M) : FnOk P w K mg base CX0 (k + 1) f fd ["script"] (spLaw K T) := by
  refine F.ok Sc (fun vs H Q E h => ?_) fun cdv A outer s H vs Q E hr h => ?_
  · obtain ⟨a, ns, rfl, _⟩ := h
    rfl
  · obtain ⟨a, ns, rfl, hl, ht, hs, hq⟩ := h
    obtain ⟨b1, b2⟩ := body cdv A outer s H E hr
    rw [hbd]
    refine ⟨_, pss_cons b1.ps b2.pss, ?_⟩
    obtain ⟨c1, c2⟩ := p1 ns hl
    have go : ∀ (ρ : List Addr) (M : Mem) (d : D), RelM K T ρ H M → Rp K ρ H d (.ref a) → w1 (ends1 N.length G) (start3 N [d]) M → tSeq (liftS (cxOf CX0 P w K mg base N qual (defScope st) f cdv A outer s H E).nox T false w1) (liftS (cxOf CX0 P w K mg base N qual (defScope st) f cdv A outer s H E).nox T false w2) { nx := fun _ H' => Q .non H', rt := Q } (L2.start N [.ref a]) H := fun ρ M d hm hd hw => by
      refine liftS_go ⟨hm, start_rel N (Rps.one hd), fun z => by cases z⟩ hw ⟨fun env' M' σ' H' ρ' h1 r1 s1 => ?_, fun _ _ _ _ _ h1 _ _ _ => h1.elim, fun _ _ _ _ _ h1 _ _ => h1.elim, fun _ _ _ _ _ h1 _ _ => h1.elim⟩
      obtain ⟨hn, d', d'', M'', e1, hsh, hG⟩ := h1
      obtain ⟨v, e2, hv⟩ := r1.e.at_ 1 d' e1
      obtain ⟨ρ'', q1, q2, q4, q3⟩ := RelM.shr r1.m (ρ0 := []) (List.nil_prefix) rfl hv hsh
      refine liftS_go (ρ := ρ'') (env := env2 N.length d'') ⟨q1, ⟨?_, fun i d0 e => ?_⟩, fun z => by cases z⟩ (p2 d'' M'' hG) ⟨fun _ _ _ _ _ h1 _ _ => h1.elim, fun d0 _ v0 H0 _ h1 _ _ hv0 => ?_, fun _ _ _ _ _ h1 _ _ => h1.elim, fun _ _ _ _ _ h1 _ _ => h1.elim⟩
      · rw [r1.e.len, hn]
        unfold env2
        rw [List.length_cons, List.length_cons, List.length_replicate]
        omega
      · unfold env2 at e
        match i, e with
        | 0, e => cases e
        | 1, e =>
          cases e
          exact ⟨v, e2, q3⟩
        | i + 2, e =>
          rw [List.getElem?_cons_succ, List.getElem?_cons_succ, List.getElem?_replicate] at e
          split at e <;> cases e
      · have h1 : d0 = .bl true := h1
        subst h1
        have hv0 : v0 = .bl true := hv0
        subst hv0
        exact hq H0
    have nil : RelM K T [] H [] := ⟨List.nodup_nil, rfl, fun n ob a h _ => by simp at h, ht⟩
    have rol : RoAt K H a (ns.map V.int) → Rp K [] H (.rol (ns.map .int)) (.ref a) := fun h => ⟨a, _, rfl, h, Rps.of_ints ns⟩
    rcases hs with (hs | ⟨o, hs⟩) | hs
    · refine go [a] [.lst (ns.map .int)] (.loc 0) ⟨by simp, rfl, fun n ob b h1 h2 => ?_, ht⟩ ⟨a, rfl, rfl⟩ c2
      match n, h1, h2 with
      | 0, h1, h2 =>
        cases h1
        cases h2
        exact ⟨_, hs, Rps.of_ints ns⟩
      | n + 1, h1, h2 => simp at h2
    · exact go [] [] _ nil (rol (.inl ⟨o, hs⟩)) c1
    · exact go [] [] _ nil (rol (.inr fun H' => .inr hs)) c1
end
end R3
set_option Elab.async false
set_option linter.all false
set_option maxRecDepth 100000
set_option maxHeartbeats 2000000
/-! The end of a law row: what the top has left, the tables too. -/
namespace R3
open PySem PySem.Spec PyProof.Rows L2 Gx
/-- what is wanted at the head's heap -/
def EndAt (l : PySem.W.OpenLaw) (w : World) (K : PySem.W.Frag) (k : Nat) (mg : Str → Option Value) (fa : Addr) (h : Heap) : Prop :=
  ∃ (fd : FuncData) (cs : List (Addr × Addr)), (∀ p ∈ cs, PySem.W.CodeHd h p.1 p.2 ∧ h.get? p.2 = some { cls := .none, data := .fields #[] }) ∧ (∀ p ∈ cs, K.lookup p.2 = none) ∧ (∀ (s : Shared) (u : Value), BindsTo s fd ⟨[u], []⟩ [("script", u)]) ∧
    ∀ base : Heap, K.In base → base.Ns mainGlobals mg → (∀ p ∈ cs, LamX.TabB base mg p.1 p.2) → FnOk l.prog w K mg base CX0 k fa fd ["script"] (spLaw K (cs.map (·.2)))
theorem walk_end {l : PySem.W.OpenLaw} {k : Nat} {q : Program} {loose : List Str} {XP : (Str → Option Value) → Heap → Prop} {YP : World → Heap → Prop} {d : DefRec} {K : Params → PySem.W.Frag}
    (hn : l.most = some 63) (hdf : d.params.defaults = []) (hr : Room k callerA) (hY : ∀ (w : World) (h : Heap), YP w h → (K w.params).In h)
    (F : ∀ (w : World) (mg mb : Str → Option Value) (mean : ExcName → Option Value) (fa : Addr) (h : Heap), (K w.params).In h → Top q (PySem.W.looseW q loose) mean mg mb h → mg d.name = some (.ref fa) → EndAt l w (K w.params) k mg fa h) :
    PySem.W.WalkO q loose XP YP l.row.toRowW d [] (fun f vs => PySem.call f vs) := by
  have h63 : 63 ≤ sizeLine := by rw [sizeLine_eq]; decide
  refine Att.attach_callB hn hdf fun w s0 s1 mg mb fa o pm cd doc a vs ns G Y _ _ _ hmg hobj hi hl _ hg => ?_
  obtain ⟨fd, cs, hC, nT, hb, hF⟩ := F w mg mb _ fa _ (hY w _ Y) G.T hmg
  refine LamX.law_callTs (hY w _ Y) G.T.g G.T.b G.T.builtins G.T.nolimit hg (fun p hp => (hC p hp).2) nT (fun p hp => (hC p hp).1) G.T.bmain hobj hi (Nat.le_trans hl h63) hr hF hb (fun H hH hS => ⟨a, ns, rfl, hl, fun P hP => ?_, hS, fun _ => rfl⟩) fun _ _ _ z => z
  obtain ⟨p, hp, e⟩ := List.mem_map.mp hP
  subst e
  exact tabA_nil (hH p hp)
end R3
set_option Elab.async false
set_option linter.all false
set_option maxRecDepth 100000
set_option maxHeartbeats 2000000
namespace K75
open PySem PySem.Spec PyProof.Rows L2 Gx R3
abbrev N_divisor : List Str := ["one", "other"]
def W_divisor : WS := (wSeq (wPar 0 1 (wCons (wCB cAbs (wCons (wVar 0) wNil)) (wCons (wCB cAbs (wCons (wVar 1) wNil)) wNil)))
  (wSeq (wWhile (wTru (wVar 1))
  (wPar 0 1 (wCons (wVar 1) (wCons (wBin oMod (wVar 0) (wVar 1)) wNil))))
  (wRet (wVar 0))))
abbrev N_lowest : List Str := ["above", "below", "by"]
def W_lowest (S_divisor : SP3) : WS := (wSeq (wAsg (wCall S_divisor (wCons (wVar 0) (wCons (wVar 1) wNil))) (wGn 2))
  (wSeq (wIfS (wTst (wBin oLt (wVar 1) (wC (.int 0))))
  (wAsg (wNeg (wVar 2)) (wGn 2))
  wNext)
  (wRet (wTup (wCons (wBin oDiv (wVar 0) (wVar 2)) (wCons (wBin oDiv (wVar 1) (wVar 2)) wNil))))))
abbrev N_plus : List Str := ["one", "other"]
def W_plus (S_lowest : SP3) : WS := (wRet (wCall S_lowest (wCons (wBin oAdd (wBin oMul (wBin oAt (wVar 0) (wC (.int 0))) (wBin oAt (wVar 1) (wC (.int 1)))) (wBin oMul (wBin oAt (wVar 1) (wC (.int 0))) (wBin oAt (wVar 0) (wC (.int 1))))) (wCons (wBin oMul (wBin oAt (wVar 0) (wC (.int 1))) (wBin oAt (wVar 1) (wC (.int 1)))) wNil))))
abbrev N_minus : List Str := ["one", "other"]
def W_minus (S_lowest : SP3) : WS := (wRet (wCall S_lowest (wCons (wBin oSub (wBin oMul (wBin oAt (wVar 0) (wC (.int 0))) (wBin oAt (wVar 1) (wC (.int 1)))) (wBin oMul (wBin oAt (wVar 1) (wC (.int 0))) (wBin oAt (wVar 0) (wC (.int 1))))) (wCons (wBin oMul (wBin oAt (wVar 0) (wC (.int 1))) (wBin oAt (wVar 1) (wC (.int 1)))) wNil))))
abbrev N_rounded_by : List Str := ["rule", "above", "below"]
def W_rounded_by : WS := (wSeq (wIfS (wTst (wBin oEq (wVar 0) (wC (.str "down"))))
  (wRet (wBin oDiv (wVar 1) (wVar 2)))
  wNext)
  (wSeq (wIfS (wTst (wBin oEq (wVar 0) (wC (.str "up"))))
  (wRet (wNeg (wBin oDiv (wNeg (wVar 1)) (wVar 2))))
  wNext)
  (wSeq (wIfS (wTst (wBin oEq (wVar 0) (wC (.str "near"))))
  (wRet (wBin oDiv (wBin oAdd (wBin oMul (wC (.int 2)) (wVar 1)) (wVar 2)) (wBin oMul (wC (.int 2)) (wVar 2))))
  wNext)
  (wRet (wNeg (wBin oDiv (wBin oSub (wVar 2) (wBin oMul (wC (.int 2)) (wVar 1))) (wBin oMul (wC (.int 2)) (wVar 2))))))))
abbrev N_row_of : List Str := ["numbers", "nothing", "places", "place", "number"]
def W_row_of : WS := (wSeq (wLock (wAsg (wNew (wSortI (wLc [3, 4] (wKeys itemsD (wVar 0)) (wGtup 2 (wGcons (wGn 3) (wGcons (wGn 4) wGnil))) (wTst (wBin oNe (wVar 4) (wVar 1))) (wVar 3)))) (wGn 2)))
  (wSeq (wIfS (wNotT (wTru (wVar 2)))
  (wRet (wTup (wCons (wC (.int 0)) (wCons (wTup wNil) wNil))))
  wNext)
  (wRet (wTup (wCons (wBin oAt (wVar 2) (wC (.int 0))) (wCons (wTupL (wLc [3] (wRg2 (wCons (wBin oAt (wVar 2) (wC (.int 0))) (wCons (wBin oAdd (wBin oAt (wVar 2) (wNeg (wC (.int 1)))) (wC (.int 1))) wNil))) (wGn 3) wYes (wGet2 (wVar 0) (wVar 3) (wVar 1)))) wNil))))))
abbrev N_whole_row : List Str := ["numbers"]
def W_whole_row (S_row_of : SP3) : WS := (wRet (wCall S_row_of (wCons (wVar 0) (wCons (wC (.int 0)) wNil))))
abbrev N_fraction_row : List Str := ["numbers"]
def W_fraction_row (S_row_of : SP3) (d_NOTHING : D) : WS := (wRet (wCall S_row_of (wCons (wVar 0) (wCons (wC d_NOTHING) wNil))))
abbrev N_numbers_of : List Str := ["row", "at", "number"]
def W_numbers_of : WS := (wRet (wDc [1, 2] (wEnum (wCons (wBin oAt (wVar 0) (wC (.int 1))) wNil)) (wGtup 2 (wGcons (wGn 1) (wGcons (wGn 2) wGnil))) wYes (wBin oAdd (wBin oAt (wVar 0) (wC (.int 0))) (wVar 1)) (wVar 2)))
abbrev N_done : List Str := ["s", "row", "found", "shift", "above", "below", "at", "number", "place"]
def W_done (S_plus : SP3) (S_fraction_row : SP3) (d_NOTHING : D) : WS := (wSeq (wAsg wDNew (wGn 2))
  (wSeq (wFor (wIterT (wVar 0)) (wGtup 2 (wGcons (wGn 3) (wGcons (wGtup 2 (wGcons (wGn 4) (wGcons (wGn 5) wGnil))) wGnil)))
  (wFor (wEnum (wCons (wBin oAt (wVar 1) (wC (.int 1))) wNil)) (wGtup 2 (wGcons (wGn 6) (wGcons (wGn 7) wGnil)))
  (wIfS (wTst (wBin oNe (wVar 7) (wC (.int 0))))
  (wSeq (wAsg (wBin oAdd (wBin oAdd (wBin oAt (wVar 1) (wC (.int 0))) (wVar 6)) (wVar 3)) (wGn 8))
  (wAsg (wCall S_plus (wCons (wGet2 (wVar 2) (wVar 8) (wC d_NOTHING)) (wCons (wTup (wCons (wBin oMul (wVar 4) (wVar 7)) (wCons (wVar 5) wNil))) wNil))) (wGsub (wVar 2) (wVar 8))))
  wNext)))
  (wRet (wCall S_fraction_row (wCons (wVar 2) wNil)))))
abbrev N_handed_by : List Str := ["s", "rule", "row", "made", "told", "found", "left", "place", "total"]
def W_handed_by (S_done : SP3) (S_numbers_of : SP3) (S_plus : SP3) (S_rounded_by : SP3) (S_minus : SP3) (d_NOTHING : D) : WS := (wSeq (wAsg (wCall S_done (wCons (wVar 0) (wCons (wVar 2) wNil))) (wGn 3))
  (wSeq (wAsg (wCall S_numbers_of (wCons (wVar 3) wNil)) (wGn 4))
  (wSeq (wAsg wDNew (wGn 5))
  (wSeq (wAsg (wC d_NOTHING) (wGn 6))
  (wSeq (wFor (wRg2 (wCons (wBin oAt (wVar 3) (wC (.int 0))) (wCons (wBin oAdd (wBin oAt (wVar 3) (wC (.int 0))) (wCB cLen (wCons (wBin oAt (wVar 3) (wC (.int 1))) wNil))) wNil))) (wGn 7)
  (wSeq (wAsg (wCall S_plus (wCons (wBin oAt (wVar 4) (wVar 7)) (wCons (wVar 6) wNil))) (wGn 8))
  (wSeq (wAsg (wCall S_rounded_by (wCons (wVar 1) (wCons (wBin oAt (wVar 8) (wC (.int 0))) (wCons (wBin oAt (wVar 8) (wC (.int 1))) wNil)))) (wGsub (wVar 5) (wVar 7)))
  (wAsg (wCall S_minus (wCons (wVar 8) (wCons (wTup (wCons (wBin oAt (wVar 5) (wVar 7)) (wCons (wC (.int 1)) wNil))) wNil))) (wGn 6)))))
  (wRet (wTup (wCons (wVar 5) (wCons (wVar 6) wNil)))))))))
abbrev N_handed : List Str := ["s", "rule", "row"]
def W_handed (S_whole_row : SP3) (S_handed_by : SP3) : WS := (wRet (wCall S_whole_row (wCons (wBin oAt (wCall S_handed_by (wCons (wVar 0) (wCons (wVar 1) (wCons (wVar 2) wNil)))) (wC (.int 0))) wNil)))
abbrev N_handed_rest : List Str := ["s", "rule", "row"]
def W_handed_rest (S_handed_by : SP3) : WS := (wRet (wBin oAt (wCall S_handed_by (wCons (wVar 0) (wCons (wVar 1) (wCons (wVar 2) wNil)))) (wC (.int 1))))
abbrev N__law_bag : List Str := ["script", "cells", "great", "cell"]
def W__law_bag : WS := (wSeq (wAsg (wNew (wCat (wLc [3] (wIter (wVar 0)) (wGn 3) wYes (wCB cAbs (wCons (wCB cInt (wCons (wVar 3) wNil)) wNil))) (wLst (wCons (wC (.int 7)) wNil)))) (wGn 1))
  (wSeq (wAsg (wNew (wLst wNil)) (wGn 2))
  (wSeq (wIfS (wTst (wBin oEq (wBin oMod (wCB cInt (wCons (wBin oAt (wVar 1) (wC (.int 0))) wNil)) (wC (.int 2))) (wC (.int 0))))
  (wSeq (wAsg (wNew (wLc [3] (wIter (wVar 1)) (wGn 3) (wTst (wBin oGe (wVar 3) (wBin oPow (wC (.int 10)) (wC (.int 18))))) (wBin oDiv (wVar 3) (wC (.int 2))))) (wGn 2))
  (wDrop (wReverse (wVar 2))))
  wNext)
  (wRet (wNew (wLst (wCons (wC (.int 0)) (wCons (wC (.int 0)) (wCons (wVar 2) (wCons (wNew (wLc [3] (wIter (wVar 1)) (wGn 3) wYes (wBin oMod (wCB cInt (wCons (wVar 3) wNil)) (wC (.int 2147483647))))) wNil))))))))))
abbrev N__law_draw : List Str := ["bag", "many", "cell", "mixed", "digit"]
def W__law_draw : WS := (wSeq (wAsg (wBin oAdd (wBin oAt (wVar 0) (wC (.int 1))) (wC (.int 1))) (wGsub (wVar 0) (wC (.int 1))))
  (wSeq (wIfS (wAndT (wTst (wBin oEq (wBin oAt (wVar 0) (wC (.int 0))) (wC (.int 0)))) (wTst (wBin oGt (wCB cLen (wCons (wBin oAt (wVar 0) (wC (.int 2))) wNil)) (wC (.int 0)))))
  (wAsg (wPop (wBin oAt (wVar 0) (wC (.int 2)))) (wGsub (wVar 0) (wC (.int 0))))
  wNext)
  (wSeq (wIfS (wTst (wBin oGt (wBin oAt (wVar 0) (wC (.int 0))) (wC (.int 0))))
  (wSeq (wAsg (wBin oMod (wCB cInt (wCons (wBin oAt (wVar 0) (wC (.int 0))) wNil)) (wVar 1)) (wGn 4))
  (wSeq (wAsg (wBin oDiv (wBin oAt (wVar 0) (wC (.int 0))) (wVar 1)) (wGsub (wVar 0) (wC (.int 0))))
  (wRet (wVar 4))))
  wNext)
  (wSeq (wAsg (wBin oAt (wBin oAt (wVar 0) (wC (.int 3))) (wBin oMod (wCB cInt (wCons (wBin oAt (wVar 0) (wC (.int 1))) wNil)) (wCB cLen (wCons (wBin oAt (wVar 0) (wC (.int 3))) wNil)))) (wGn 2))
  (wSeq (wAsg (wBin oMod (wCB cInt (wCons (wBin oAdd (wBin oAdd (wBin oMul (wVar 2) (wC (.int 48271))) (wBin oMul (wBin oAt (wVar 0) (wC (.int 1))) (wC (.int 69621)))) (wC (.int 1))) wNil)) (wC (.int 2147483647))) (wGn 3))
  (wRet (wBin oMod (wBin oDiv (wBin oMod (wCB cInt (wCons (wBin oAdd (wBin oAdd (wBin oMul (wVar 3) (wVar 3)) (wBin oMul (wVar 3) (wC (.int 16807)))) (wBin oMul (wBin oAt (wVar 0) (wC (.int 1))) (wC (.int 40014)))) wNil)) (wC (.int 2147483629))) (wC (.int 32))) (wVar 1))))))))
abbrev N__law_pick : List Str := ["bag", "some"]
def W__law_pick (S__law_draw : SP3) : WS := (wRet (wBin oAt (wVar 1) (wCall S__law_draw (wCons (wVar 0) (wCons (wCB cLen (wCons (wVar 1) wNil)) wNil)))))
abbrev N__law_same : List Str := ["found", "due", "k"]
def W__law_same (S__law_same : SP3) : WS := (wSeq (wIfS (wTst (wBin (oIsK false) (wVar 1) (wC .non)))
  (wRet (wBin (oIsK false) (wVar 0) (wC .non)))
  wNext)
  (wSeq (wIfS (wOrT (wTru (wIsi .bool (wVar 1))) (wTru (wIsi .bool (wVar 0))))
  (wRet (wAndV (wIsi .bool (wVar 1)) (wAndV (wIsi .bool (wVar 0)) (wBin oEq (wVar 0) (wVar 1)))))
  wNext)
  (wSeq (wIfS (wTru (wIsi .int (wVar 1)))
  (wRet (wAndV (wIsi .int (wVar 0)) (wBin oEq (wVar 0) (wVar 1))))
  wNext)
  (wSeq (wIfS (wTru (wIsi .str (wVar 1)))
  (wRet (wAndV (wIsi .str (wVar 0)) (wBin oEq (wVar 0) (wVar 1))))
  wNext)
  (wSeq (wIfS (wOrT (wNotT (wTru (wIsi .tup (wVar 1)))) (wOrT (wNotT (wTru (wIsi .tup (wVar 0)))) (wTst (wBin oNe (wCB cLen (wCons (wVar 0) wNil)) (wCB cLen (wCons (wVar 1) wNil))))))
  (wRet (wC (.bl false)))
  wNext)
  (wSeq (wFor (wRg1 (wCons (wCB cLen (wCons (wVar 1) wNil)) wNil)) (wGn 2)
  (wIfS (wNotT (wTru (wCall S__law_same (wCons (wBin oAt (wVar 0) (wVar 2)) (wCons (wBin oAt (wVar 1) (wVar 2)) wNil)))))
  (wRet (wC (.bl false)))
  wNext))
  (wRet (wC (.bl true)))))))))
abbrev N__law_gcd : List Str := ["a", "b", "time"]
def W__law_gcd : WS := (wSeq (wPar 0 1 (wCons (wCB cAbs (wCons (wVar 0) wNil)) (wCons (wCB cAbs (wCons (wVar 1) wNil)) wNil)))
  (wSeq (wFor (wRg1 (wCons (wC (.int 2000)) wNil)) (wGn 2)
  (wSeq (wIfS (wTst (wBin oEq (wVar 1) (wC (.int 0))))
  wBrk
  wNext)
  (wPar 0 1 (wCons (wVar 1) (wCons (wBin oMod (wCB cInt (wCons (wVar 0) wNil)) (wVar 1)) wNil)))))
  (wRet (wVar 0))))
abbrev N__law_fr : List Str := ["a", "b", "by"]
def W__law_fr (S__law_gcd : SP3) : WS := (wSeq (wAsg (wIf (wTst (wBin oGt (wVar 1) (wC (.int 0)))) (wCall S__law_gcd (wCons (wVar 0) (wCons (wVar 1) wNil))) (wBin oSub (wC (.int 0)) (wCall S__law_gcd (wCons (wVar 0) (wCons (wVar 1) wNil))))) (wGn 2))
  (wRet (wTup (wCons (wBin oDiv (wVar 0) (wVar 2)) (wCons (wBin oDiv (wVar 1) (wVar 2)) wNil)))))
abbrev N__law_plus : List Str := ["a", "b"]
def W__law_plus (S__law_fr : SP3) : WS := (wRet (wCall S__law_fr (wCons (wBin oAdd (wBin oMul (wBin oAt (wVar 0) (wC (.int 0))) (wBin oAt (wVar 1) (wC (.int 1)))) (wBin oMul (wBin oAt (wVar 1) (wC (.int 0))) (wBin oAt (wVar 0) (wC (.int 1))))) (wCons (wBin oMul (wBin oAt (wVar 0) (wC (.int 1))) (wBin oAt (wVar 1) (wC (.int 1)))) wNil))))
abbrev N__law_round : List Str := ["rule", "a", "b"]
def W__law_round : WS := (wSeq (wIfS (wTst (wBin oEq (wVar 0) (wC (.str "down"))))
  (wRet (wBin oDiv (wVar 1) (wVar 2)))
  wNext)
  (wSeq (wIfS (wTst (wBin oEq (wVar 0) (wC (.str "up"))))
  (wRet (wBin oSub (wC (.int 0)) (wBin oDiv (wBin oSub (wC (.int 0)) (wVar 1)) (wVar 2))))
  wNext)
  (wSeq (wIfS (wTst (wBin oEq (wVar 0) (wC (.str "near"))))
  (wRet (wBin oDiv (wBin oAdd (wBin oMul (wC (.int 2)) (wVar 1)) (wVar 2)) (wBin oMul (wC (.int 2)) (wVar 2))))
  wNext)
  (wRet (wBin oSub (wC (.int 0)) (wBin oDiv (wBin oSub (wVar 2) (wBin oMul (wC (.int 2)) (wVar 1))) (wBin oMul (wC (.int 2)) (wVar 2))))))))
abbrev N__law_row : List Str := ["numbers", "places", "p"]
def W__law_row : WS := (wSeq (wLock (wAsg (wNew (wSortI (wLc [2] (wKeys keysD (wVar 0)) (wGn 2) (wTst (wBin oNe (wBin oAt (wVar 0) (wVar 2)) (wC (.int 0)))) (wVar 2)))) (wGn 1)))
  (wSeq (wIfS (wEmp false (wVar 1))
  (wRet (wTup (wCons (wC (.int 0)) (wCons (wTup wNil) wNil))))
  wNext)
  (wRet (wTup (wCons (wBin oAt (wVar 1) (wC (.int 0))) (wCons (wTupL (wLc [2] (wRg2 (wCons (wBin oAt (wVar 1) (wC (.int 0))) (wCons (wBin oAdd (wBin oAt (wVar 1) (wNeg (wC (.int 1)))) (wC (.int 1))) wNil))) (wGn 2) wYes (wGet2 (wVar 0) (wVar 2) (wC (.int 0))))) wNil))))))
abbrev N__law_draw_row : List Str := ["bag", "most", "size", "start", "k"]
def W__law_draw_row (S__law_draw : SP3) (S__law_row : SP3) : WS := (wSeq (wAsg (wBin oSub (wCall S__law_draw (wCons (wVar 0) (wCons (wC (.int 7)) wNil))) (wC (.int 3))) (wGn 3))
  (wRet (wCall S__law_row (wCons (wDictP (wLc [4] (wRg1 (wCons (wCall S__law_draw (wCons (wVar 0) (wCons (wBin oAdd (wVar 1) (wC (.int 1))) wNil))) wNil)) (wGn 4) wYes (wTup (wCons (wBin oAdd (wVar 3) (wVar 4)) (wCons (wBin oSub (wCall S__law_draw (wCons (wVar 0) (wCons (wBin oAdd (wBin oMul (wC (.int 2)) (wVar 2)) (wC (.int 1))) wNil))) (wVar 2)) wNil))))) wNil))))
abbrev N__law_done : List Str := ["s", "row", "found", "numbers", "shift", "tap", "p"]
def W__law_done (S__law_numbers : SP3) (S__law_plus : SP3) (S__law_fr : SP3) : WS := (wSeq (wAsg wDNew (wGn 2))
  (wSeq (wAsg (wCall S__law_numbers (wCons (wVar 1) wNil)) (wGn 3))
  (wSeq (wFor (wIterT (wVar 0)) (wGtup 2 (wGcons (wGn 4) (wGcons (wGn 5) wGnil)))
  (wLock (wFor (wKeys keysD (wVar 3)) (wGn 6)
  (wAsg (wCall S__law_plus (wCons (wGet2 (wVar 2) (wBin oAdd (wVar 6) (wVar 4)) (wTup (wCons (wC (.int 0)) (wCons (wC (.int 1)) wNil)))) (wCons (wTup (wCons (wBin oMul (wBin oAt (wVar 5) (wC (.int 0))) (wBin oAt (wVar 3) (wVar 6))) (wCons (wBin oAt (wVar 5) (wC (.int 1))) wNil))) wNil))) (wGsub (wVar 2) (wBin oAdd (wVar 6) (wVar 4)))))))
  (wLock (wRet (wDictP (wLc [6] (wKeys keysD (wVar 2)) (wGn 6) wYes (wTup (wCons (wVar 6) (wCons (wCall S__law_fr (wCons (wBin oAt (wBin oAt (wVar 2) (wVar 6)) (wC (.int 0))) (wCons (wBin oAt (wBin oAt (wVar 2) (wVar 6)) (wC (.int 1))) wNil))) wNil))))))))))
abbrev N__law_numbers : List Str := ["row", "k"]
def W__law_numbers : WS := (wRet (wDictP (wLc [1] (wRg1 (wCons (wCB cLen (wCons (wBin oAt (wVar 0) (wC (.int 1))) wNil)) wNil)) (wGn 1) wYes (wTup (wCons (wBin oAdd (wBin oAt (wVar 0) (wC (.int 0))) (wVar 1)) (wCons (wBin oAt (wBin oAt (wVar 0) (wC (.int 1))) (wVar 1)) wNil))))))
abbrev N__law_sum : List Str := ["bag", "taps", "shift", "belows", "above", "found", "k", "top", "s"]
def W__law_sum (S__law_draw : SP3) (S__law_fr : SP3) (S__law_pick : SP3) : WS := (wSeq (wAsg wDNew (wGn 5))
  (wSeq (wFor (wRg1 (wCons (wBin oAdd (wC (.int 1)) (wCall S__law_draw (wCons (wVar 0) (wCons (wVar 1) wNil)))) wNil)) (wGn 6)
  (wSeq (wAsg (wBin oAdd (wC (.int 1)) (wCall S__law_draw (wCons (wVar 0) (wCons (wVar 4) wNil)))) (wGn 7))
  (wAsg (wCall S__law_fr (wCons (wIf (wTst (wBin oEq (wCall S__law_draw (wCons (wVar 0) (wCons (wC (.int 2)) wNil))) (wC (.int 0)))) (wVar 7) (wBin oSub (wC (.int 0)) (wVar 7))) (wCons (wCall S__law_pick (wCons (wVar 0) (wCons (wVar 3) wNil))) wNil))) (wGsub (wVar 5) (wBin oSub (wCall S__law_draw (wCons (wVar 0) (wCons (wBin oAdd (wBin oMul (wC (.int 2)) (wVar 2)) (wC (.int 1))) wNil))) (wVar 2))))))
  (wRet (wTupL (wLc [8] (wIter (wNew (wSortD (wVar 5)))) (wGn 8) wYes (wTup (wCons (wVar 8) (wCons (wBin oAt (wVar 5) (wVar 8)) wNil))))))))
abbrev N__law_handed : List Str := ["s", "rule", "row", "made", "places", "p", "found", "total", "before", "now"]
def W__law_handed (S__law_done : SP3) (S__law_plus : SP3) (S__law_round : SP3) (S__law_fr : SP3) (S__law_row : SP3) : WS := (wSeq (wAsg (wCall S__law_done (wCons (wVar 0) (wCons (wVar 2) wNil))) (wGn 3))
  (wSeq (wLock (wAsg (wNew (wSortI (wLc [5] (wKeys keysD (wVar 3)) (wGn 5) (wTst (wBin oNe (wBin oAt (wBin oAt (wVar 3) (wVar 5)) (wC (.int 0))) (wC (.int 0)))) (wVar 5)))) (wGn 4)))
  (wSeq (wPar3 6 7 8 (wCons wDNew (wCons (wTup (wCons (wC (.int 0)) (wCons (wC (.int 1)) wNil))) (wCons (wC (.int 0)) wNil))))
  (wSeq (wFor (wIter (wIf (wEmp true (wVar 4)) (wNew (wLrg (wBin oAt (wVar 4) (wC (.int 0))) (wBin oAdd (wBin oAt (wVar 4) (wNeg (wC (.int 1)))) (wC (.int 1))))) (wNew (wLst wNil)))) (wGn 5)
  (wSeq (wAsg (wCall S__law_plus (wCons (wVar 7) (wCons (wGet2 (wVar 3) (wVar 5) (wTup (wCons (wC (.int 0)) (wCons (wC (.int 1)) wNil)))) wNil))) (wGn 7))
  (wSeq (wAsg (wCall S__law_round (wCons (wVar 1) (wCons (wBin oAt (wVar 7) (wC (.int 0))) (wCons (wBin oAt (wVar 7) (wC (.int 1))) wNil)))) (wGn 9))
  (wSeq (wAsg (wBin oSub (wVar 9) (wVar 8)) (wGsub (wVar 6) (wVar 5)))
  (wAsg (wVar 9) (wGn 8))))))
  (wRet (wTup (wCons (wCall S__law_row (wCons (wVar 6) wNil)) (wCons (wCall S__law_fr (wCons (wBin oSub (wBin oAt (wVar 7) (wC (.int 0))) (wBin oMul (wVar 8) (wBin oAt (wVar 7) (wC (.int 1))))) (wCons (wBin oAt (wVar 7) (wC (.int 1))) wNil))) wNil))))))))
abbrev N__law_case : List Str := ["bag", "sort", "size", "row", "s"]
def W__law_case (S__law_draw : SP3) (S__law_pick : SP3) (S__law_draw_row : SP3) (S__law_sum : SP3) : WS := (wSeq (wAsg (wCall S__law_draw (wCons (wVar 0) (wCons (wC (.int 8)) wNil))) (wGn 1))
  (wSeq (wAsg (wCall S__law_pick (wCons (wVar 0) (wCons (wNew (wLst (wCons (wC (.int 1)) (wCons (wC (.int 3)) (wCons (wC (.int 20)) (wCons (wC (.int 1000)) (wCons (wBin oPow (wC (.int 10)) (wC (.int 26))) wNil))))))) wNil))) (wGn 2))
  (wSeq (wAsg (wCall S__law_draw_row (wCons (wVar 0) (wCons (wC (.int 12)) (wCons (wVar 2) wNil)))) (wGn 3))
  (wSeq (wAsg (wCall S__law_sum (wCons (wVar 0) (wCons (wC (.int 4)) (wCons (wC (.int 3)) (wCons (wCall S__law_pick (wCons (wVar 0) (wCons (wNew (wLst (wCons (wNew (wLst (wCons (wC (.int 1)) wNil))) (wCons (wNew (wLst (wCons (wC (.int 2)) wNil))) (wCons (wNew (wLst (wCons (wC (.int 2)) (wCons (wC (.int 3)) wNil)))) (wCons (wNew (wLst (wCons (wC (.int 4)) (wCons (wC (.int 6)) (wCons (wC (.int 9)) wNil))))) (wCons (wNew (wLst (wCons (wC (.int 10)) (wCons (wC (.int 7)) wNil)))) wNil))))))) wNil))) (wCons (wC (.int 9)) wNil)))))) (wGn 4))
  (wSeq (wIfS (wTst (wBin oEq (wVar 1) (wC (.int 0))))
  (wAsg (wTup wNil) (wGn 4))
  wNext)
  (wSeq (wIfS (wTst (wBin oEq (wVar 1) (wC (.int 1))))
  (wSeq (wAsg (wTup (wCons (wTup (wCons (wC (.int 0)) (wCons (wTup (wCons (wC (.int 1)) (wCons (wC (.int 3)) wNil))) wNil))) (wCons (wTup (wCons (wC (.int 1)) (wCons (wTup (wCons (wNeg (wC (.int 1))) (wCons (wC (.int 3)) wNil))) wNil))) wNil))) (wGn 4))
  (wAsg (wIf (wTst (wBin oNe (wBin oAt (wVar 3) (wC (.int 1))) (wTup wNil))) (wTup (wCons (wBin oAt (wVar 3) (wC (.int 0))) (wCons (wBin oMul (wTup (wCons (wVar 2) wNil)) (wCB cLen (wCons (wBin oAt (wVar 3) (wC (.int 1))) wNil))) wNil))) (wVar 3)) (wGn 3)))
  wNext)
  (wRet (wTup (wCons (wVar 4) (wCons (wVar 3) wNil))))))))))
abbrev N_law : List Str := ["script", "bag", "time", "rule", "s", "row", "due", "told"]
def W_law_1 (S__law_bag : SP3) (S__law_case : SP3) (S__law_handed : SP3) (S_handed : SP3) (S__law_same : SP3) (S_handed_rest : SP3) : WS := (wAsg (wCall S__law_bag (wCons (wVar 0) wNil)) (wGn 1))
def W_law_2 (S__law_bag : SP3) (S__law_case : SP3) (S__law_handed : SP3) (S_handed : SP3) (S__law_same : SP3) (S_handed_rest : SP3) : WS := (wSeq (wFor (wRg1 (wCons (wC (.int 6)) wNil)) (wGn 2)
  (wSeq (wAsg (wCall S__law_case (wCons (wVar 1) wNil)) (wGtup 2 (wGcons (wGn 4) (wGcons (wGn 5) wGnil))))
  (wFor (wIterT (wTup (wCons (wC (.str "down")) (wCons (wC (.str "up")) (wCons (wC (.str "near")) (wCons (wC (.str "low")) wNil)))))) (wGn 3)
  (wSeq (wAsg (wCall S__law_handed (wCons (wVar 4) (wCons (wVar 3) (wCons (wVar 5) wNil)))) (wGn 6))
  (wSeq (wAsg (wIf (wTst (wBin oGt (wVar 2) (wC (.int 0)))) (wCall S_handed (wCons (wVar 4) (wCons (wVar 3) (wCons (wVar 5) wNil)))) (wCallK S_handed (permK 3 [2, 1, 0]) (wCons (wVar 5) (wCons (wVar 3) (wCons (wVar 4) wNil))))) (wGn 7))
  (wSeq (wIfS (wNotT (wTru (wCall S__law_same (wCons (wVar 7) (wCons (wBin oAt (wVar 6) (wC (.int 0))) wNil)))))
  (wRet (wC (.bl false)))
  wNext)
  (wSeq (wAsg (wIf (wTst (wBin oGt (wVar 2) (wC (.int 0)))) (wCall S_handed_rest (wCons (wVar 4) (wCons (wVar 3) (wCons (wVar 5) wNil)))) (wCallK S_handed_rest (permK 3 [2, 1, 0]) (wCons (wVar 5) (wCons (wVar 3) (wCons (wVar 4) wNil))))) (wGn 7))
  (wIfS (wNotT (wTru (wCall S__law_same (wCons (wVar 7) (wCons (wBin oAt (wVar 6) (wC (.int 1))) wNil)))))
  (wRet (wC (.bl false)))
  wNext))))))))
  (wRet (wC (.bl true))))
end K75
set_option Elab.async false
set_option linter.all false
set_option maxRecDepth 100000
set_option maxHeartbeats 2000000
namespace K75
open PySem PySem.Spec PyProof.Rows L2 Gx R3
def topS (i : Nat) : Stmt := PySem.Challenge.pw_roundladder_k75_whole_rests_handed_on.main.body.getD i (.Pass ⟨0, 0, 0, 0⟩)
abbrev st_divisor : Stmt := topS 1
theorem sc_divisor : FnScope N_divisor ["one", "other"] (defScope st_divisor) := ⟨rfl, rfl, rfl, by decide +kernel, rfl, by decide +kernel, by decide +kernel⟩
theorem ok_divisor {P : Program} {w : World} {K : PySem.W.Frag} {mg : Str → Option Value} {base : Heap} {T : List Addr} {f : Addr} {fd : FuncData} (F : Fun K "divisor" "divisor" st_divisor f fd) (hmg : mg "divisor" = some (.ref f)) (hb : Binds K fd ["one", "other"] [])
  (m_abs : mg "abs" = none)
  {S : SP3} (len : ∀ ds M R, S ds M R → ds.length = 2) (pure_ : ∀ ds M R, wfM M.length M → S ds M R → (W_divisor) (ends3 M.length R) (start3 N_divisor ds) M) : Fn3 P w K mg base T 8 "divisor" ["one", "other"] S :=
  fn3 (k := 7) F sc_divisor len hmg hb fun cdv A outer s H E hr => ⟨(W_divisor), (q_bcons (q_par (i := 0) (j := 1) rfl sc_divisor.nd rfl rfl (by decide) rfl rfl (q_cons (q_abs (by rfl) m_abs (q_cons (q_var 0) q_nil)) (q_cons (q_abs (by rfl) m_abs (q_cons (q_var 1) q_nil)) q_nil)) (by rfl))
  (q_bcons (q_while PassesOwn.never (q_tru (q_var 1))
  (q_bone (q_par (i := 0) (j := 1) rfl sc_divisor.nd rfl rfl (by decide) rfl rfl (q_cons (q_var 1) (q_cons (q_mod (q_var 0) (q_var 1)) q_nil)) (by rfl))))
  (q_bone (q_ret (q_var 0))))), pure_⟩
abbrev st_lowest : Stmt := topS 4
theorem sc_lowest : FnScope N_lowest ["above", "below"] (defScope st_lowest) := ⟨rfl, rfl, rfl, by decide +kernel, rfl, by decide +kernel, by decide +kernel⟩
theorem ok_lowest {P : Program} {w : World} {K : PySem.W.Frag} {mg : Str → Option Value} {base : Heap} {T : List Addr} {f : Addr} {fd : FuncData} (F : Fun K "lowest" "lowest" st_lowest f fd) (hmg : mg "lowest" = some (.ref f)) (hb : Binds K fd ["above", "below"] [])
  {S_divisor : SP3} (G_divisor : Fn3 P w K mg base T 8 "divisor" ["one", "other"] S_divisor)
  {S : SP3} (len : ∀ ds M R, S ds M R → ds.length = 2) (pure_ : ∀ ds M R, wfM M.length M → S ds M R → (W_lowest S_divisor) (ends3 M.length R) (start3 N_lowest ds) M) : Fn3 P w K mg base T 16 "lowest" ["above", "below"] S :=
  fn3 (k := 15) F sc_lowest len hmg hb fun cdv A outer s H E hr => ⟨(W_lowest S_divisor), (q_bcons (q_set (i := 2) sc_lowest.nd rfl (by first | exact .inl rfl | exact .inr rfl) (q_call G_divisor hr (by rfl) (q_cons (q_var 0) (q_cons (q_var 1) q_nil))))
  (q_bcons (q_if (q_ltT (q_var 1) q_int)
  (q_bone (q_set (i := 2) sc_lowest.nd rfl (by first | exact .inl rfl | exact .inr rfl) (q_neg (q_var 2))))
  q_bnil)
  (q_bone (q_ret (q_tup (q_cons (q_div (q_var 0) (q_var 2)) (q_cons (q_div (q_var 1) (q_var 2)) q_nil))))))), pure_⟩
abbrev st_plus : Stmt := topS 5
theorem sc_plus : FnScope N_plus ["one", "other"] (defScope st_plus) := ⟨rfl, rfl, rfl, by decide +kernel, rfl, by decide +kernel, by decide +kernel⟩
theorem ok_plus {P : Program} {w : World} {K : PySem.W.Frag} {mg : Str → Option Value} {base : Heap} {T : List Addr} {f : Addr} {fd : FuncData} (F : Fun K "plus" "plus" st_plus f fd) (hmg : mg "plus" = some (.ref f)) (hb : Binds K fd ["one", "other"] [])
  {S_lowest : SP3} (G_lowest : Fn3 P w K mg base T 16 "lowest" ["above", "below"] S_lowest)
  {S : SP3} (len : ∀ ds M R, S ds M R → ds.length = 2) (pure_ : ∀ ds M R, wfM M.length M → S ds M R → (W_plus S_lowest) (ends3 M.length R) (start3 N_plus ds) M) : Fn3 P w K mg base T 24 "plus" ["one", "other"] S :=
  fn3 (k := 23) F sc_plus len hmg hb fun cdv A outer s H E hr => ⟨(W_plus S_lowest), (q_bone (q_ret (q_call G_lowest hr (by rfl) (q_cons (q_add (q_mul (q_sub1 hr (q_var 0) q_int) (q_sub1 hr (q_var 1) q_int)) (q_mul (q_sub1 hr (q_var 1) q_int) (q_sub1 hr (q_var 0) q_int))) (q_cons (q_mul (q_sub1 hr (q_var 0) q_int) (q_sub1 hr (q_var 1) q_int)) q_nil))))), pure_⟩
abbrev st_minus : Stmt := topS 6
theorem sc_minus : FnScope N_minus ["one", "other"] (defScope st_minus) := ⟨rfl, rfl, rfl, by decide +kernel, rfl, by decide +kernel, by decide +kernel⟩
theorem ok_minus {P : Program} {w : World} {K : PySem.W.Frag} {mg : Str → Option Value} {base : Heap} {T : List Addr} {f : Addr} {fd : FuncData} (F : Fun K "minus" "minus" st_minus f fd) (hmg : mg "minus" = some (.ref f)) (hb : Binds K fd ["one", "other"] [])
  {S_lowest : SP3} (G_lowest : Fn3 P w K mg base T 16 "lowest" ["above", "below"] S_lowest)
  {S : SP3} (len : ∀ ds M R, S ds M R → ds.length = 2) (pure_ : ∀ ds M R, wfM M.length M → S ds M R → (W_minus S_lowest) (ends3 M.length R) (start3 N_minus ds) M) : Fn3 P w K mg base T 24 "minus" ["one", "other"] S :=
  fn3 (k := 23) F sc_minus len hmg hb fun cdv A outer s H E hr => ⟨(W_minus S_lowest), (q_bone (q_ret (q_call G_lowest hr (by rfl) (q_cons (q_sub (q_mul (q_sub1 hr (q_var 0) q_int) (q_sub1 hr (q_var 1) q_int)) (q_mul (q_sub1 hr (q_var 1) q_int) (q_sub1 hr (q_var 0) q_int))) (q_cons (q_mul (q_sub1 hr (q_var 0) q_int) (q_sub1 hr (q_var 1) q_int)) q_nil))))), pure_⟩
abbrev st_rounded_by : Stmt := topS 7
theorem sc_rounded_by : FnScope N_rounded_by ["rule", "above", "below"] (defScope st_rounded_by) := ⟨rfl, rfl, rfl, by decide +kernel, rfl, by decide +kernel, by decide +kernel⟩
theorem ok_rounded_by {P : Program} {w : World} {K : PySem.W.Frag} {mg : Str → Option Value} {base : Heap} {T : List Addr} {f : Addr} {fd : FuncData} (F : Fun K "rounded_by" "rounded_by" st_rounded_by f fd) (hmg : mg "rounded_by" = some (.ref f)) (hb : Binds K fd ["rule", "above", "below"] [])
  
  {S : SP3} (len : ∀ ds M R, S ds M R → ds.length = 3) (pure_ : ∀ ds M R, wfM M.length M → S ds M R → (W_rounded_by) (ends3 M.length R) (start3 N_rounded_by ds) M) : Fn3 P w K mg base T 8 "rounded_by" ["rule", "above", "below"] S :=
  fn3 (k := 7) F sc_rounded_by len hmg hb fun cdv A outer s H E hr => ⟨(W_rounded_by), (q_bcons (q_if (q_eqT hr (q_var 0) q_str)
  (q_bone (q_ret (q_div (q_var 1) (q_var 2))))
  q_bnil)
  (q_bcons (q_if (q_eqT hr (q_var 0) q_str)
  (q_bone (q_ret (q_neg (q_div (q_neg (q_var 1)) (q_var 2)))))
  q_bnil)
  (q_bcons (q_if (q_eqT hr (q_var 0) q_str)
  (q_bone (q_ret (q_div (q_add (q_mul q_int (q_var 1)) (q_var 2)) (q_mul q_int (q_var 2)))))
  q_bnil)
  (q_bone (q_ret (q_neg (q_div (q_sub (q_var 2) (q_mul q_int (q_var 1))) (q_mul q_int (q_var 2))))))))), pure_⟩
abbrev st_row_of : Stmt := topS 9
theorem sc_row_of : FnScope N_row_of ["numbers", "nothing"] (defScope st_row_of) := ⟨rfl, rfl, rfl, by decide +kernel, rfl, by decide +kernel, by decide +kernel⟩
theorem ok_row_of {P : Program} {w : World} {K : PySem.W.Frag} {mg : Str → Option Value} {base : Heap} {T : List Addr} {f c Pt : Addr} {fd : FuncData} (F : FunC K "row_of" "row_of" st_row_of f fd c) (hmg : mg "row_of" = some (.ref f)) (hb : Binds K fd ["numbers", "nothing"] []) (hcd : PySem.W.CodeHd base c Pt) (hT : Pt ∈ T)
  (m_sorted : mg "sorted" = none)
  (m_tuple : mg "tuple" = none)
  (m_range : mg "range" = none)
  (hbm : BuiltM base mg)
  {S : SP3} (len : ∀ ds M R, S ds M R → ds.length = 2) (pure_ : ∀ ds M R, wfM M.length M → S ds M R → (W_row_of) (ends3 M.length R) (start3 N_row_of ds) M) : Fn3 P w K mg base T 8 "row_of" ["numbers", "nothing"] S :=
  fn3c (k := 7) F sc_row_of len hmg hb hcd hT fun A outer s H E hr => ⟨(W_row_of), (q_bcons (q_lock (q_set (i := 2) sc_row_of.nd rfl (by first | exact .inl rfl | exact .inr rfl) (q_new (q_sortI (QGn.co (q_gen (k := 0) (b' := false) (own := [("place", 3), ("number", 4)]) hr sc_row_of.nd hbm (q_items (q_var 0)) (blkOk_by (N := N_row_of) (sc := defScope st_row_of) (own := [("place", 3), ("number", 4)]) (by decide +kernel)) (fun A s H C cl code fp go rr => (q_gtup rfl (q_gcons (q_gname (i := 3) sc_row_of.nd rfl (by first | exact .inl rfl | exact .inr rfl)) (q_gcons (q_gname (i := 4) sc_row_of.nd rfl (by first | exact .inl rfl | exact .inr rfl)) q_gnil)))) (fun A s H C cl code fp go rr => (q_tsone (q_neT rr (q_var 4) (q_var 1)))) (fun A s H C cl code fp go rr => (q_var 3)))) hr (by rfl) m_sorted))))
  (q_bcons (q_if (q_notT (q_tru (q_var 2)))
  (q_bone (q_ret (q_tup (q_cons q_int (q_cons (q_tup q_nil) q_nil)))))
  q_bnil)
  (q_bone (q_ret (q_tup (q_cons (q_sub1 hr (q_var 2) q_int) (q_cons (q_tupG (q_gen (k := 0) (b' := false) (own := [("place", 3)]) hr sc_row_of.nd hbm (q_range2 (by rfl) m_range (q_cons (q_sub1 hr (q_var 2) q_int) (q_cons (q_add (q_sub1 hr (q_var 2) (q_neg q_int)) q_int) q_nil))) (blkOk_by (N := N_row_of) (sc := defScope st_row_of) (own := [("place", 3)]) (by decide +kernel)) (fun A s H C cl code fp go rr => (q_gname (i := 3) sc_row_of.nd rfl (by first | exact .inl rfl | exact .inr rfl))) (fun A s H C cl code fp go rr => q_tsnil) (fun A s H C cl code fp go rr => (q_get2 rr (q_var 0) (q_var 3) (q_var 1) ⟨by rfl, by rfl, by rfl, by rfl⟩))) hr (by rfl) m_tuple) q_nil))))))), pure_⟩
abbrev st_whole_row : Stmt := topS 10
theorem sc_whole_row : FnScope N_whole_row ["numbers"] (defScope st_whole_row) := ⟨rfl, rfl, rfl, by decide +kernel, rfl, by decide +kernel, by decide +kernel⟩
theorem ok_whole_row {P : Program} {w : World} {K : PySem.W.Frag} {mg : Str → Option Value} {base : Heap} {T : List Addr} {f : Addr} {fd : FuncData} (F : Fun K "whole_row" "whole_row" st_whole_row f fd) (hmg : mg "whole_row" = some (.ref f)) (hb : Binds K fd ["numbers"] [])
  {S_row_of : SP3} (G_row_of : Fn3 P w K mg base T 8 "row_of" ["numbers", "nothing"] S_row_of)
  {S : SP3} (len : ∀ ds M R, S ds M R → ds.length = 1) (pure_ : ∀ ds M R, wfM M.length M → S ds M R → (W_whole_row S_row_of) (ends3 M.length R) (start3 N_whole_row ds) M) : Fn3 P w K mg base T 16 "whole_row" ["numbers"] S :=
  fn3 (k := 15) F sc_whole_row len hmg hb fun cdv A outer s H E hr => ⟨(W_whole_row S_row_of), (q_bone (q_ret (q_call G_row_of hr (by rfl) (q_cons (q_var 0) (q_cons q_int q_nil))))), pure_⟩
abbrev st_fraction_row : Stmt := topS 11
theorem sc_fraction_row : FnScope N_fraction_row ["numbers"] (defScope st_fraction_row) := ⟨rfl, rfl, rfl, by decide +kernel, rfl, by decide +kernel, by decide +kernel⟩
theorem ok_fraction_row {P : Program} {w : World} {K : PySem.W.Frag} {mg : Str → Option Value} {base : Heap} {T : List Addr} {f : Addr} {fd : FuncData} (F : Fun K "fraction_row" "fraction_row" st_fraction_row f fd) (hmg : mg "fraction_row" = some (.ref f)) (hb : Binds K fd ["numbers"] [])
  {S_row_of : SP3} (G_row_of : Fn3 P w K mg base T 8 "row_of" ["numbers", "nothing"] S_row_of)
  {d_NOTHING : D} (g_NOTHING : GlobC K mg "NOTHING" d_NOTHING)
  {S : SP3} (len : ∀ ds M R, S ds M R → ds.length = 1) (pure_ : ∀ ds M R, wfM M.length M → S ds M R → (W_fraction_row S_row_of d_NOTHING) (ends3 M.length R) (start3 N_fraction_row ds) M) : Fn3 P w K mg base T 16 "fraction_row" ["numbers"] S :=
  fn3 (k := 15) F sc_fraction_row len hmg hb fun cdv A outer s H E hr => ⟨(W_fraction_row S_row_of d_NOTHING), (q_bone (q_ret (q_call G_row_of hr (by rfl) (q_cons (q_var 0) (q_cons (q_glob (by rfl) g_NOTHING) q_nil))))), pure_⟩
abbrev st_numbers_of : Stmt := topS 12
theorem sc_numbers_of : FnScope N_numbers_of ["row"] (defScope st_numbers_of) := ⟨rfl, rfl, rfl, by decide +kernel, rfl, by decide +kernel, by decide +kernel⟩
theorem ok_numbers_of {P : Program} {w : World} {K : PySem.W.Frag} {mg : Str → Option Value} {base : Heap} {T : List Addr} {f : Addr} {fd : FuncData} (F : Fun K "numbers_of" "numbers_of" st_numbers_of f fd) (hmg : mg "numbers_of" = some (.ref f)) (hb : Binds K fd ["row"] [])
  (m_enumerate : mg "enumerate" = none)
  {S : SP3} (len : ∀ ds M R, S ds M R → ds.length = 1) (pure_ : ∀ ds M R, wfM M.length M → S ds M R → (W_numbers_of) (ends3 M.length R) (start3 N_numbers_of ds) M) : Fn3 P w K mg base T 8 "numbers_of" ["row"] S :=
  fn3 (k := 7) F sc_numbers_of len hmg hb fun cdv A outer s H E hr => ⟨(W_numbers_of), (q_bone (q_ret (q_dc (own := [("at", 1), ("number", 2)]) rfl sc_numbers_of.nd (q_enumT (by rfl) m_enumerate (q_cons (q_sub1 hr (q_var 0) q_int) q_nil)) (blkOk_by (N := N_numbers_of) (sc := defScope st_numbers_of) (own := [("at", 1), ("number", 2)]) (by decide +kernel)) (fun _ _ _ _ _ => (q_gtup rfl (q_gcons (q_gname (i := 1) sc_numbers_of.nd rfl (by first | exact .inl rfl | exact .inr rfl)) (q_gcons (q_gname (i := 2) sc_numbers_of.nd rfl (by first | exact .inl rfl | exact .inr rfl)) q_gnil)))) (fun _ _ _ _ _ => q_tsnil) (fun _ _ _ _ _ => (q_add (q_sub1 hr (q_var 0) q_int) (q_var 1))) (fun _ _ _ _ _ => (q_var 2))))), pure_⟩
abbrev st_done : Stmt := topS 14
theorem sc_done : FnScope N_done ["s", "row"] (defScope st_done) := ⟨rfl, rfl, rfl, by decide +kernel, rfl, by decide +kernel, by decide +kernel⟩
theorem ok_done {P : Program} {w : World} {K : PySem.W.Frag} {mg : Str → Option Value} {base : Heap} {T : List Addr} {f : Addr} {fd : FuncData} (F : Fun K "done" "done" st_done f fd) (hmg : mg "done" = some (.ref f)) (hb : Binds K fd ["s", "row"] [])
  {S_plus : SP3} (G_plus : Fn3 P w K mg base T 24 "plus" ["one", "other"] S_plus)
  {S_fraction_row : SP3} (G_fraction_row : Fn3 P w K mg base T 16 "fraction_row" ["numbers"] S_fraction_row)
  {d_NOTHING : D} (g_NOTHING : GlobC K mg "NOTHING" d_NOTHING)
  (m_enumerate : mg "enumerate" = none)
  {S : SP3} (len : ∀ ds M R, S ds M R → ds.length = 2) (pure_ : ∀ ds M R, wfM M.length M → S ds M R → (W_done S_plus S_fraction_row d_NOTHING) (ends3 M.length R) (start3 N_done ds) M) : Fn3 P w K mg base T 32 "done" ["s", "row"] S :=
  fn3 (k := 31) F sc_done len hmg hb fun cdv A outer s H E hr => ⟨(W_done S_plus S_fraction_row d_NOTHING), (q_bcons (q_set (i := 2) sc_done.nd rfl (by first | exact .inl rfl | exact .inr rfl) q_dnew)
  (q_bcons (q_for PassesOwn.never rfl (q_iterT (q_var 0)) (q_gtup rfl (q_gcons (q_gname (i := 3) sc_done.nd rfl (by first | exact .inl rfl | exact .inr rfl)) (q_gcons (q_gtup rfl (q_gcons (q_gname (i := 4) sc_done.nd rfl (by first | exact .inl rfl | exact .inr rfl)) (q_gcons (q_gname (i := 5) sc_done.nd rfl (by first | exact .inl rfl | exact .inr rfl)) q_gnil))) q_gnil)))
  (q_bone (q_for PassesOwn.never rfl (q_enumT (by rfl) m_enumerate (q_cons (q_sub1 hr (q_var 1) q_int) q_nil)) (q_gtup rfl (q_gcons (q_gname (i := 6) sc_done.nd rfl (by first | exact .inl rfl | exact .inr rfl)) (q_gcons (q_gname (i := 7) sc_done.nd rfl (by first | exact .inl rfl | exact .inr rfl)) q_gnil)))
  (q_bone (q_if (q_neT hr (q_var 7) q_int)
  (q_bcons (q_set (i := 8) sc_done.nd rfl (by first | exact .inl rfl | exact .inr rfl) (q_add (q_add (q_sub1 hr (q_var 1) q_int) (q_var 6)) (q_var 3)))
  (q_bone (q_asg (q_call G_plus hr (by rfl) (q_cons (q_get2 hr (q_var 2) (q_var 8) (q_glob (by rfl) g_NOTHING) ⟨by rfl, by rfl, by rfl, by rfl⟩) (q_cons (q_tup (q_cons (q_mul (q_var 4) (q_var 7)) (q_cons (q_var 5) q_nil))) q_nil))) (q_gsub hr (q_var 2) (q_var 8)))))
  q_bnil)))))
  (q_bone (q_ret (q_call G_fraction_row hr (by rfl) (q_cons (q_var 2) q_nil)))))), pure_⟩
abbrev st_handed_by : Stmt := topS 16
theorem sc_handed_by : FnScope N_handed_by ["s", "rule", "row"] (defScope st_handed_by) := ⟨rfl, rfl, rfl, by decide +kernel, rfl, by decide +kernel, by decide +kernel⟩
theorem ok_handed_by {P : Program} {w : World} {K : PySem.W.Frag} {mg : Str → Option Value} {base : Heap} {T : List Addr} {f : Addr} {fd : FuncData} (F : Fun K "handed_by" "handed_by" st_handed_by f fd) (hmg : mg "handed_by" = some (.ref f)) (hb : Binds K fd ["s", "rule", "row"] [])
  {S_done : SP3} (G_done : Fn3 P w K mg base T 32 "done" ["s", "row"] S_done)
  {S_numbers_of : SP3} (G_numbers_of : Fn3 P w K mg base T 8 "numbers_of" ["row"] S_numbers_of)
  {S_plus : SP3} (G_plus : Fn3 P w K mg base T 24 "plus" ["one", "other"] S_plus)
  {S_rounded_by : SP3} (G_rounded_by : Fn3 P w K mg base T 8 "rounded_by" ["rule", "above", "below"] S_rounded_by)
  {S_minus : SP3} (G_minus : Fn3 P w K mg base T 24 "minus" ["one", "other"] S_minus)
  {d_NOTHING : D} (g_NOTHING : GlobC K mg "NOTHING" d_NOTHING)
  (m_len : mg "len" = none)
  (m_range : mg "range" = none)
  {S : SP3} (len : ∀ ds M R, S ds M R → ds.length = 3) (pure_ : ∀ ds M R, wfM M.length M → S ds M R → (W_handed_by S_done S_numbers_of S_plus S_rounded_by S_minus d_NOTHING) (ends3 M.length R) (start3 N_handed_by ds) M) : Fn3 P w K mg base T 40 "handed_by" ["s", "rule", "row"] S :=
  fn3 (k := 39) F sc_handed_by len hmg hb fun cdv A outer s H E hr => ⟨(W_handed_by S_done S_numbers_of S_plus S_rounded_by S_minus d_NOTHING), (q_bcons (q_set (i := 3) sc_handed_by.nd rfl (by first | exact .inl rfl | exact .inr rfl) (q_call G_done hr (by rfl) (q_cons (q_var 0) (q_cons (q_var 2) q_nil))))
  (q_bcons (q_set (i := 4) sc_handed_by.nd rfl (by first | exact .inl rfl | exact .inr rfl) (q_call G_numbers_of hr (by rfl) (q_cons (q_var 3) q_nil)))
  (q_bcons (q_set (i := 5) sc_handed_by.nd rfl (by first | exact .inl rfl | exact .inr rfl) q_dnew)
  (q_bcons (q_set (i := 6) sc_handed_by.nd rfl (by first | exact .inl rfl | exact .inr rfl) (q_glob (by rfl) g_NOTHING))
  (q_bcons (q_for PassesOwn.never rfl (q_range2 (by rfl) m_range (q_cons (q_sub1 hr (q_var 3) q_int) (q_cons (q_add (q_sub1 hr (q_var 3) q_int) (q_len (by rfl) m_len (q_cons (q_sub1 hr (q_var 3) q_int) q_nil))) q_nil))) (q_gname (i := 7) sc_handed_by.nd rfl (by first | exact .inl rfl | exact .inr rfl))
  (q_bcons (q_set (i := 8) sc_handed_by.nd rfl (by first | exact .inl rfl | exact .inr rfl) (q_call G_plus hr (by rfl) (q_cons (q_sub1 hr (q_var 4) (q_var 7)) (q_cons (q_var 6) q_nil))))
  (q_bcons (q_asg (q_call G_rounded_by hr (by rfl) (q_cons (q_var 1) (q_cons (q_sub1 hr (q_var 8) q_int) (q_cons (q_sub1 hr (q_var 8) q_int) q_nil)))) (q_gsub hr (q_var 5) (q_var 7)))
  (q_bone (q_set (i := 6) sc_handed_by.nd rfl (by first | exact .inl rfl | exact .inr rfl) (q_call G_minus hr (by rfl) (q_cons (q_var 8) (q_cons (q_tup (q_cons (q_sub1 hr (q_var 5) (q_var 7)) (q_cons q_int q_nil))) q_nil))))))))
  (q_bone (q_ret (q_tup (q_cons (q_var 5) (q_cons (q_var 6) q_nil)))))))))), pure_⟩
abbrev st_handed : Stmt := topS 17
theorem sc_handed : FnScope N_handed ["s", "rule", "row"] (defScope st_handed) := ⟨rfl, rfl, rfl, by decide +kernel, rfl, by decide +kernel, by decide +kernel⟩
theorem ok_handed {P : Program} {w : World} {K : PySem.W.Frag} {mg : Str → Option Value} {base : Heap} {T : List Addr} {f : Addr} {fd : FuncData} (F : Fun K "handed" "handed" st_handed f fd) (hmg : mg "handed" = some (.ref f)) (hb : Binds K fd ["s", "rule", "row"] [])
  {S_whole_row : SP3} (G_whole_row : Fn3 P w K mg base T 16 "whole_row" ["numbers"] S_whole_row)
  {S_handed_by : SP3} (G_handed_by : Fn3 P w K mg base T 40 "handed_by" ["s", "rule", "row"] S_handed_by)
  {S : SP3} (len : ∀ ds M R, S ds M R → ds.length = 3) (pure_ : ∀ ds M R, wfM M.length M → S ds M R → (W_handed S_whole_row S_handed_by) (ends3 M.length R) (start3 N_handed ds) M) : Fn3 P w K mg base T 48 "handed" ["s", "rule", "row"] S :=
  fn3 (k := 47) F sc_handed len hmg hb fun cdv A outer s H E hr => ⟨(W_handed S_whole_row S_handed_by), (q_bone (q_ret (q_call G_whole_row hr (by rfl) (q_cons (q_sub1 hr (q_call G_handed_by hr (by rfl) (q_cons (q_var 0) (q_cons (q_var 1) (q_cons (q_var 2) q_nil)))) q_int) q_nil)))), pure_⟩
abbrev st_handed_rest : Stmt := topS 18
theorem sc_handed_rest : FnScope N_handed_rest ["s", "rule", "row"] (defScope st_handed_rest) := ⟨rfl, rfl, rfl, by decide +kernel, rfl, by decide +kernel, by decide +kernel⟩
theorem ok_handed_rest {P : Program} {w : World} {K : PySem.W.Frag} {mg : Str → Option Value} {base : Heap} {T : List Addr} {f : Addr} {fd : FuncData} (F : Fun K "handed_rest" "handed_rest" st_handed_rest f fd) (hmg : mg "handed_rest" = some (.ref f)) (hb : Binds K fd ["s", "rule", "row"] [])
  {S_handed_by : SP3} (G_handed_by : Fn3 P w K mg base T 40 "handed_by" ["s", "rule", "row"] S_handed_by)
  {S : SP3} (len : ∀ ds M R, S ds M R → ds.length = 3) (pure_ : ∀ ds M R, wfM M.length M → S ds M R → (W_handed_rest S_handed_by) (ends3 M.length R) (start3 N_handed_rest ds) M) : Fn3 P w K mg base T 48 "handed_rest" ["s", "rule", "row"] S :=
  fn3 (k := 47) F sc_handed_rest len hmg hb fun cdv A outer s H E hr => ⟨(W_handed_rest S_handed_by), (q_bone (q_ret (q_sub1 hr (q_call G_handed_by hr (by rfl) (q_cons (q_var 0) (q_cons (q_var 1) (q_cons (q_var 2) q_nil)))) q_int))), pure_⟩
abbrev st__law_bag : Stmt := topS 20
theorem sc__law_bag : FnScope N__law_bag ["script"] (defScope st__law_bag) := ⟨rfl, rfl, rfl, by decide +kernel, rfl, by decide +kernel, by decide +kernel⟩
theorem ok__law_bag {P : Program} {w : World} {K : PySem.W.Frag} {mg : Str → Option Value} {base : Heap} {T : List Addr} {f : Addr} {fd : FuncData} (F : Fun K "_law_bag" "_law_bag" st__law_bag f fd) (hmg : mg "_law_bag" = some (.ref f)) (hb : Binds K fd ["script"] [])
  (m_int : mg "int" = none)
  (m_abs : mg "abs" = none)
  {S : SP3} (len : ∀ ds M R, S ds M R → ds.length = 1) (pure_ : ∀ ds M R, wfM M.length M → S ds M R → (W__law_bag) (ends3 M.length R) (start3 N__law_bag ds) M) : Fn3 P w K mg base T 8 "_law_bag" ["script"] S :=
  fn3 (k := 7) F sc__law_bag len hmg hb fun cdv A outer s H E hr => ⟨(W__law_bag), (q_bcons (q_set (i := 1) sc__law_bag.nd rfl (by first | exact .inl rfl | exact .inr rfl) (q_new (q_cat (q_lc (own := [("cell", 3)]) rfl sc__law_bag.nd (q_iter (q_var 0)) (blkOk_by (N := N__law_bag) (sc := defScope st__law_bag) (own := [("cell", 3)]) (by decide +kernel)) (fun _ _ _ _ _ => (q_gname (i := 3) sc__law_bag.nd rfl (by first | exact .inl rfl | exact .inr rfl))) (fun _ _ _ _ _ => q_tsnil) (fun _ _ _ _ _ => (q_abs (by rfl) m_abs (q_cons (q_intc (by rfl) m_int (q_cons (q_var 3) q_nil)) q_nil)))) (q_lst (q_cons q_int q_nil)))))
  (q_bcons (q_set (i := 2) sc__law_bag.nd rfl (by first | exact .inl rfl | exact .inr rfl) (q_new (q_lst q_nil)))
  (q_bcons (q_if (q_eqT hr (q_mod (q_intc (by rfl) m_int (q_cons (q_sub1 hr (q_var 1) q_int) q_nil)) q_int) q_int)
  (q_bcons (q_setLc (i := 2) (own := [("cell", 3)]) rfl sc__law_bag.nd rfl rfl (sw_true rfl rfl rfl (by decide +kernel)) (q_iter (q_var 1)) (blkOk_by (N := N__law_bag) (sc := defScope st__law_bag) (own := [("cell", 3)]) (by decide +kernel)) (fun _ _ _ _ _ => (q_gname (i := 3) sc__law_bag.nd rfl (by first | exact .inl rfl | exact .inr rfl))) (fun _ _ _ _ _ => (q_tsone (q_geT (q_var 3) (q_pow q_int q_int)))) (fun _ _ _ _ _ => (q_div (q_var 3) q_int)))
  (q_bone (q_expr (q_reverse (q_var 2)))))
  q_bnil)
  (q_bone (q_ret (q_new (q_lst (q_cons q_int (q_cons q_int (q_cons (q_var 2) (q_cons (q_new (q_lc (own := [("cell", 3)]) rfl sc__law_bag.nd (q_iter (q_var 1)) (blkOk_by (N := N__law_bag) (sc := defScope st__law_bag) (own := [("cell", 3)]) (by decide +kernel)) (fun _ _ _ _ _ => (q_gname (i := 3) sc__law_bag.nd rfl (by first | exact .inl rfl | exact .inr rfl))) (fun _ _ _ _ _ => q_tsnil) (fun _ _ _ _ _ => (q_mod (q_intc (by rfl) m_int (q_cons (q_var 3) q_nil)) q_int)))) q_nil))))))))))), pure_⟩
abbrev st__law_draw : Stmt := topS 21
theorem sc__law_draw : FnScope N__law_draw ["bag", "many"] (defScope st__law_draw) := ⟨rfl, rfl, rfl, by decide +kernel, rfl, by decide +kernel, by decide +kernel⟩
theorem ok__law_draw {P : Program} {w : World} {K : PySem.W.Frag} {mg : Str → Option Value} {base : Heap} {T : List Addr} {f : Addr} {fd : FuncData} (F : Fun K "_law_draw" "_law_draw" st__law_draw f fd) (hmg : mg "_law_draw" = some (.ref f)) (hb : Binds K fd ["bag", "many"] [])
  (m_len : mg "len" = none)
  (m_int : mg "int" = none)
  {S : SP3} (len : ∀ ds M R, S ds M R → ds.length = 2) (pure_ : ∀ ds M R, wfM M.length M → S ds M R → (W__law_draw) (ends3 M.length R) (start3 N__law_draw ds) M) : Fn3 P w K mg base T 8 "_law_draw" ["bag", "many"] S :=
  fn3 (k := 7) F sc__law_draw len hmg hb fun cdv A outer s H E hr => ⟨(W__law_draw), (q_bcons (q_asg (q_add (q_sub1 hr (q_var 0) q_int) q_int) (q_gsub hr (q_var 0) q_int))
  (q_bcons (q_if (q_wt (q_andW (q_eqT hr (q_sub1 hr (q_var 0) q_int) q_int) (q_and1 (q_gtT (q_len (by rfl) m_len (q_cons (q_sub1 hr (q_var 0) q_int) q_nil)) q_int))))
  (q_bone (q_asg (q_pop (q_sub1 hr (q_var 0) q_int)) (q_gsub hr (q_var 0) q_int)))
  q_bnil)
  (q_bcons (q_if (q_gtT (q_sub1 hr (q_var 0) q_int) q_int)
  (q_bcons (q_set (i := 4) sc__law_draw.nd rfl (by first | exact .inl rfl | exact .inr rfl) (q_mod (q_intc (by rfl) m_int (q_cons (q_sub1 hr (q_var 0) q_int) q_nil)) (q_var 1)))
  (q_bcons (q_asg (q_div (q_sub1 hr (q_var 0) q_int) (q_var 1)) (q_gsub hr (q_var 0) q_int))
  (q_bone (q_ret (q_var 4)))))
  q_bnil)
  (q_bcons (q_set (i := 2) sc__law_draw.nd rfl (by first | exact .inl rfl | exact .inr rfl) (q_sub1 hr (q_sub1 hr (q_var 0) q_int) (q_mod (q_intc (by rfl) m_int (q_cons (q_sub1 hr (q_var 0) q_int) q_nil)) (q_len (by rfl) m_len (q_cons (q_sub1 hr (q_var 0) q_int) q_nil)))))
  (q_bcons (q_set (i := 3) sc__law_draw.nd rfl (by first | exact .inl rfl | exact .inr rfl) (q_mod (q_intc (by rfl) m_int (q_cons (q_add (q_add (q_mul (q_var 2) q_int) (q_mul (q_sub1 hr (q_var 0) q_int) q_int)) q_int) q_nil)) q_int))
  (q_bone (q_ret (q_mod (q_div (q_mod (q_intc (by rfl) m_int (q_cons (q_add (q_add (q_mul (q_var 3) (q_var 3)) (q_mul (q_var 3) q_int)) (q_mul (q_sub1 hr (q_var 0) q_int) q_int)) q_nil)) q_int) q_int) (q_var 1))))))))), pure_⟩
abbrev st__law_pick : Stmt := topS 22
theorem sc__law_pick : FnScope N__law_pick ["bag", "some"] (defScope st__law_pick) := ⟨rfl, rfl, rfl, by decide +kernel, rfl, by decide +kernel, by decide +kernel⟩
theorem ok__law_pick {P : Program} {w : World} {K : PySem.W.Frag} {mg : Str → Option Value} {base : Heap} {T : List Addr} {f : Addr} {fd : FuncData} (F : Fun K "_law_pick" "_law_pick" st__law_pick f fd) (hmg : mg "_law_pick" = some (.ref f)) (hb : Binds K fd ["bag", "some"] [])
  {S__law_draw : SP3} (G__law_draw : Fn3 P w K mg base T 8 "_law_draw" ["bag", "many"] S__law_draw)
  (m_len : mg "len" = none)
  {S : SP3} (len : ∀ ds M R, S ds M R → ds.length = 2) (pure_ : ∀ ds M R, wfM M.length M → S ds M R → (W__law_pick S__law_draw) (ends3 M.length R) (start3 N__law_pick ds) M) : Fn3 P w K mg base T 16 "_law_pick" ["bag", "some"] S :=
  fn3 (k := 15) F sc__law_pick len hmg hb fun cdv A outer s H E hr => ⟨(W__law_pick S__law_draw), (q_bone (q_ret (q_sub1 hr (q_var 1) (q_call G__law_draw hr (by rfl) (q_cons (q_var 0) (q_cons (q_len (by rfl) m_len (q_cons (q_var 1) q_nil)) q_nil)))))), pure_⟩
abbrev st__law_same : Stmt := topS 23
theorem sc__law_same : FnScope N__law_same ["found", "due"] (defScope st__law_same) := ⟨rfl, rfl, rfl, by decide +kernel, rfl, by decide +kernel, by decide +kernel⟩
theorem ok__law_same {P : Program} {w : World} {K : PySem.W.Frag} {mg : Str → Option Value} {base : Heap} {T : List Addr} {f : Addr} {fd : FuncData} (F : Fun K "_law_same" "_law_same" st__law_same f fd) (hmg : mg "_law_same" = some (.ref f)) (hb : Binds K fd ["found", "due"] [])
  {lv : Nat}
  {S__law_same : SP3} (G__law_same : Fn3 P w K mg base T lv "_law_same" ["found", "due"] S__law_same)
  (m_isinstance : mg "isinstance" = none)
  (m_bool : mg "bool" = none)
  (m_int : mg "int" = none)
  (m_str : mg "str" = none)
  (m_tuple : mg "tuple" = none)
  (m_len : mg "len" = none)
  (m_range : mg "range" = none)
  {S : SP3} (len : ∀ ds M R, S ds M R → ds.length = 2) (pure_ : ∀ ds M R, wfM M.length M → S ds M R → (W__law_same S__law_same) (ends3 M.length R) (start3 N__law_same ds) M) : Fn3 P w K mg base T (lv + 2) "_law_same" ["found", "due"] S :=
  fn3 (k := lv + 1) F sc__law_same len hmg hb fun cdv A outer s H E hr => ⟨(W__law_same S__law_same), (q_bcons (q_if (q_isT (q_var 1) q_non)
  (q_bone (q_ret (q_isE (q_var 0) q_non)))
  q_bnil)
  (q_bcons (q_if (q_wt (q_orW (q_tru (q_isi .bool (by rfl) m_isinstance (by rfl) m_bool (by rfl) (q_var 1))) (q_or1 (q_tru (q_isi .bool (by rfl) m_isinstance (by rfl) m_bool (by rfl) (q_var 0))))))
  (q_bone (q_ret (q_andV (q_isi .bool (by rfl) m_isinstance (by rfl) m_bool (by rfl) (q_var 1)) (q_andV (q_isi .bool (by rfl) m_isinstance (by rfl) m_bool (by rfl) (q_var 0)) (q_oneV (q_eqE hr (q_var 0) (q_var 1)))))))
  q_bnil)
  (q_bcons (q_if (q_tru (q_isi .int (by rfl) m_isinstance (by rfl) m_int (by rfl) (q_var 1)))
  (q_bone (q_ret (q_andV (q_isi .int (by rfl) m_isinstance (by rfl) m_int (by rfl) (q_var 0)) (q_oneV (q_eqE hr (q_var 0) (q_var 1))))))
  q_bnil)
  (q_bcons (q_if (q_tru (q_isi .str (by rfl) m_isinstance (by rfl) m_str (by rfl) (q_var 1)))
  (q_bone (q_ret (q_andV (q_isi .str (by rfl) m_isinstance (by rfl) m_str (by rfl) (q_var 0)) (q_oneV (q_eqE hr (q_var 0) (q_var 1))))))
  q_bnil)
  (q_bcons (q_if (q_wt (q_orW (q_notT (q_tru (q_isi .tup (by rfl) m_isinstance (by rfl) m_tuple (by rfl) (q_var 1)))) (q_orW (q_notT (q_tru (q_isi .tup (by rfl) m_isinstance (by rfl) m_tuple (by rfl) (q_var 0)))) (q_or1 (q_neT hr (q_len (by rfl) m_len (q_cons (q_var 0) q_nil)) (q_len (by rfl) m_len (q_cons (q_var 1) q_nil)))))))
  (q_bone (q_ret q_bl))
  q_bnil)
  (q_bcons (q_for PassesOwn.never rfl (q_range1 (by rfl) m_range (q_cons (q_len (by rfl) m_len (q_cons (q_var 1) q_nil)) q_nil)) (q_gname (i := 2) sc__law_same.nd rfl (by first | exact .inl rfl | exact .inr rfl))
  (q_bone (q_if (q_notT (q_tru (q_call G__law_same hr (by rfl) (q_cons (q_sub1 hr (q_var 0) (q_var 2)) (q_cons (q_sub1 hr (q_var 1) (q_var 2)) q_nil)) (by omega))))
  (q_bone (q_ret q_bl))
  q_bnil)))
  (q_bone (q_ret q_bl)))))))), pure_⟩
abbrev st__law_gcd : Stmt := topS 24
theorem sc__law_gcd : FnScope N__law_gcd ["a", "b"] (defScope st__law_gcd) := ⟨rfl, rfl, rfl, by decide +kernel, rfl, by decide +kernel, by decide +kernel⟩
theorem ok__law_gcd {P : Program} {w : World} {K : PySem.W.Frag} {mg : Str → Option Value} {base : Heap} {T : List Addr} {f : Addr} {fd : FuncData} (F : Fun K "_law_gcd" "_law_gcd" st__law_gcd f fd) (hmg : mg "_law_gcd" = some (.ref f)) (hb : Binds K fd ["a", "b"] [])
  (m_abs : mg "abs" = none)
  (m_range : mg "range" = none)
  (m_int : mg "int" = none)
  {S : SP3} (len : ∀ ds M R, S ds M R → ds.length = 2) (pure_ : ∀ ds M R, wfM M.length M → S ds M R → (W__law_gcd) (ends3 M.length R) (start3 N__law_gcd ds) M) : Fn3 P w K mg base T 8 "_law_gcd" ["a", "b"] S :=
  fn3 (k := 7) F sc__law_gcd len hmg hb fun cdv A outer s H E hr => ⟨(W__law_gcd), (q_bcons (q_par (i := 0) (j := 1) rfl sc__law_gcd.nd rfl rfl (by decide) rfl rfl (q_cons (q_abs (by rfl) m_abs (q_cons (q_var 0) q_nil)) (q_cons (q_abs (by rfl) m_abs (q_cons (q_var 1) q_nil)) q_nil)) (by rfl))
  (q_bcons (q_for PassesOwn.never rfl (q_range1 (by rfl) m_range (q_cons q_int q_nil)) (q_gname (i := 2) sc__law_gcd.nd rfl (by first | exact .inl rfl | exact .inr rfl))
  (q_bcons (q_if (q_eqT hr (q_var 1) q_int)
  (q_bone q_brk)
  q_bnil)
  (q_bone (q_par (i := 0) (j := 1) rfl sc__law_gcd.nd rfl rfl (by decide) rfl rfl (q_cons (q_var 1) (q_cons (q_mod (q_intc (by rfl) m_int (q_cons (q_var 0) q_nil)) (q_var 1)) q_nil)) (by rfl)))))
  (q_bone (q_ret (q_var 0))))), pure_⟩
abbrev st__law_fr : Stmt := topS 25
theorem sc__law_fr : FnScope N__law_fr ["a", "b"] (defScope st__law_fr) := ⟨rfl, rfl, rfl, by decide +kernel, rfl, by decide +kernel, by decide +kernel⟩
theorem ok__law_fr {P : Program} {w : World} {K : PySem.W.Frag} {mg : Str → Option Value} {base : Heap} {T : List Addr} {f : Addr} {fd : FuncData} (F : Fun K "_law_fr" "_law_fr" st__law_fr f fd) (hmg : mg "_law_fr" = some (.ref f)) (hb : Binds K fd ["a", "b"] [])
  {S__law_gcd : SP3} (G__law_gcd : Fn3 P w K mg base T 8 "_law_gcd" ["a", "b"] S__law_gcd)
  {S : SP3} (len : ∀ ds M R, S ds M R → ds.length = 2) (pure_ : ∀ ds M R, wfM M.length M → S ds M R → (W__law_fr S__law_gcd) (ends3 M.length R) (start3 N__law_fr ds) M) : Fn3 P w K mg base T 16 "_law_fr" ["a", "b"] S :=
  fn3 (k := 15) F sc__law_fr len hmg hb fun cdv A outer s H E hr => ⟨(W__law_fr S__law_gcd), (q_bcons (q_set (i := 2) sc__law_fr.nd rfl (by first | exact .inl rfl | exact .inr rfl) (q_ifE (q_gtT (q_var 1) q_int) (q_call G__law_gcd hr (by rfl) (q_cons (q_var 0) (q_cons (q_var 1) q_nil))) (q_sub q_int (q_call G__law_gcd hr (by rfl) (q_cons (q_var 0) (q_cons (q_var 1) q_nil))))))
  (q_bone (q_ret (q_tup (q_cons (q_div (q_var 0) (q_var 2)) (q_cons (q_div (q_var 1) (q_var 2)) q_nil)))))), pure_⟩
abbrev st__law_plus : Stmt := topS 26
theorem sc__law_plus : FnScope N__law_plus ["a", "b"] (defScope st__law_plus) := ⟨rfl, rfl, rfl, by decide +kernel, rfl, by decide +kernel, by decide +kernel⟩
theorem ok__law_plus {P : Program} {w : World} {K : PySem.W.Frag} {mg : Str → Option Value} {base : Heap} {T : List Addr} {f : Addr} {fd : FuncData} (F : Fun K "_law_plus" "_law_plus" st__law_plus f fd) (hmg : mg "_law_plus" = some (.ref f)) (hb : Binds K fd ["a", "b"] [])
  {S__law_fr : SP3} (G__law_fr : Fn3 P w K mg base T 16 "_law_fr" ["a", "b"] S__law_fr)
  {S : SP3} (len : ∀ ds M R, S ds M R → ds.length = 2) (pure_ : ∀ ds M R, wfM M.length M → S ds M R → (W__law_plus S__law_fr) (ends3 M.length R) (start3 N__law_plus ds) M) : Fn3 P w K mg base T 24 "_law_plus" ["a", "b"] S :=
  fn3 (k := 23) F sc__law_plus len hmg hb fun cdv A outer s H E hr => ⟨(W__law_plus S__law_fr), (q_bone (q_ret (q_call G__law_fr hr (by rfl) (q_cons (q_add (q_mul (q_sub1 hr (q_var 0) q_int) (q_sub1 hr (q_var 1) q_int)) (q_mul (q_sub1 hr (q_var 1) q_int) (q_sub1 hr (q_var 0) q_int))) (q_cons (q_mul (q_sub1 hr (q_var 0) q_int) (q_sub1 hr (q_var 1) q_int)) q_nil))))), pure_⟩
abbrev st__law_round : Stmt := topS 27
theorem sc__law_round : FnScope N__law_round ["rule", "a", "b"] (defScope st__law_round) := ⟨rfl, rfl, rfl, by decide +kernel, rfl, by decide +kernel, by decide +kernel⟩
theorem ok__law_round {P : Program} {w : World} {K : PySem.W.Frag} {mg : Str → Option Value} {base : Heap} {T : List Addr} {f : Addr} {fd : FuncData} (F : Fun K "_law_round" "_law_round" st__law_round f fd) (hmg : mg "_law_round" = some (.ref f)) (hb : Binds K fd ["rule", "a", "b"] [])
  
  {S : SP3} (len : ∀ ds M R, S ds M R → ds.length = 3) (pure_ : ∀ ds M R, wfM M.length M → S ds M R → (W__law_round) (ends3 M.length R) (start3 N__law_round ds) M) : Fn3 P w K mg base T 8 "_law_round" ["rule", "a", "b"] S :=
  fn3 (k := 7) F sc__law_round len hmg hb fun cdv A outer s H E hr => ⟨(W__law_round), (q_bcons (q_if (q_eqT hr (q_var 0) q_str)
  (q_bone (q_ret (q_div (q_var 1) (q_var 2))))
  q_bnil)
  (q_bcons (q_if (q_eqT hr (q_var 0) q_str)
  (q_bone (q_ret (q_sub q_int (q_div (q_sub q_int (q_var 1)) (q_var 2)))))
  q_bnil)
  (q_bcons (q_if (q_eqT hr (q_var 0) q_str)
  (q_bone (q_ret (q_div (q_add (q_mul q_int (q_var 1)) (q_var 2)) (q_mul q_int (q_var 2)))))
  q_bnil)
  (q_bone (q_ret (q_sub q_int (q_div (q_sub (q_var 2) (q_mul q_int (q_var 1))) (q_mul q_int (q_var 2))))))))), pure_⟩
abbrev st__law_row : Stmt := topS 28
theorem sc__law_row : FnScope N__law_row ["numbers"] (defScope st__law_row) := ⟨rfl, rfl, rfl, by decide +kernel, rfl, by decide +kernel, by decide +kernel⟩
theorem ok__law_row {P : Program} {w : World} {K : PySem.W.Frag} {mg : Str → Option Value} {base : Heap} {T : List Addr} {f : Addr} {fd : FuncData} (F : Fun K "_law_row" "_law_row" st__law_row f fd) (hmg : mg "_law_row" = some (.ref f)) (hb : Binds K fd ["numbers"] [])
  (m_sorted : mg "sorted" = none)
  (m_tuple : mg "tuple" = none)
  (m_range : mg "range" = none)
  {S : SP3} (len : ∀ ds M R, S ds M R → ds.length = 1) (pure_ : ∀ ds M R, wfM M.length M → S ds M R → (W__law_row) (ends3 M.length R) (start3 N__law_row ds) M) : Fn3 P w K mg base T 8 "_law_row" ["numbers"] S :=
  fn3 (k := 7) F sc__law_row len hmg hb fun cdv A outer s H E hr => ⟨(W__law_row), (q_bcons (q_lock (q_set (i := 1) sc__law_row.nd rfl (by first | exact .inl rfl | exact .inr rfl) (q_new (q_sortI (k := 0) (QL.co (q_lc (own := [("p", 2)]) rfl sc__law_row.nd (q_keys (q_var 0)) (blkOk_by (N := N__law_row) (sc := defScope st__law_row) (own := [("p", 2)]) (by decide +kernel)) (fun _ _ _ _ _ => (q_gname (i := 2) sc__law_row.nd rfl (by first | exact .inl rfl | exact .inr rfl))) (fun _ _ _ _ _ => (q_tsone (q_neT hr (q_sub1 hr (q_var 0) (q_var 2)) q_int))) (fun _ _ _ _ _ => (q_var 2)))) hr (by rfl) m_sorted))))
  (q_bcons (q_if (q_eqNil (kk := 0) hr (q_var 1))
  (q_bone (q_ret (q_tup (q_cons q_int (q_cons (q_tup q_nil) q_nil)))))
  q_bnil)
  (q_bone (q_ret (q_tup (q_cons (q_sub1 hr (q_var 1) q_int) (q_cons (q_tupL (q_lc (own := [("p", 2)]) rfl sc__law_row.nd (q_range2 (by rfl) m_range (q_cons (q_sub1 hr (q_var 1) q_int) (q_cons (q_add (q_sub1 hr (q_var 1) (q_neg q_int)) q_int) q_nil))) (blkOk_by (N := N__law_row) (sc := defScope st__law_row) (own := [("p", 2)]) (by decide +kernel)) (fun _ _ _ _ _ => (q_gname (i := 2) sc__law_row.nd rfl (by first | exact .inl rfl | exact .inr rfl))) (fun _ _ _ _ _ => q_tsnil) (fun _ _ _ _ _ => (q_get2 hr (q_var 0) (q_var 2) q_int ⟨by rfl, by rfl, by rfl, by rfl⟩))) (by rfl) m_tuple) q_nil))))))), pure_⟩
abbrev st__law_draw_row : Stmt := topS 29
theorem sc__law_draw_row : FnScope N__law_draw_row ["bag", "most", "size"] (defScope st__law_draw_row) := ⟨rfl, rfl, rfl, by decide +kernel, rfl, by decide +kernel, by decide +kernel⟩
theorem ok__law_draw_row {P : Program} {w : World} {K : PySem.W.Frag} {mg : Str → Option Value} {base : Heap} {T : List Addr} {f : Addr} {fd : FuncData} (F : Fun K "_law_draw_row" "_law_draw_row" st__law_draw_row f fd) (hmg : mg "_law_draw_row" = some (.ref f)) (hb : Binds K fd ["bag", "most", "size"] [])
  {S__law_draw : SP3} (G__law_draw : Fn3 P w K mg base T 8 "_law_draw" ["bag", "many"] S__law_draw)
  {S__law_row : SP3} (G__law_row : Fn3 P w K mg base T 8 "_law_row" ["numbers"] S__law_row)
  (m_dict : mg "dict" = none)
  (m_range : mg "range" = none)
  {S : SP3} (len : ∀ ds M R, S ds M R → ds.length = 3) (pure_ : ∀ ds M R, wfM M.length M → S ds M R → (W__law_draw_row S__law_draw S__law_row) (ends3 M.length R) (start3 N__law_draw_row ds) M) : Fn3 P w K mg base T 16 "_law_draw_row" ["bag", "most", "size"] S :=
  fn3 (k := 15) F sc__law_draw_row len hmg hb fun cdv A outer s H E hr => ⟨(W__law_draw_row S__law_draw S__law_row), (q_bcons (q_set (i := 3) sc__law_draw_row.nd rfl (by first | exact .inl rfl | exact .inr rfl) (q_sub (q_call G__law_draw hr (by rfl) (q_cons (q_var 0) (q_cons q_int q_nil))) q_int))
  (q_bone (q_ret (q_call G__law_row hr (by rfl) (q_cons (q_dictP rfl (by rfl) m_dict (q_lc (own := [("k", 4)]) rfl sc__law_draw_row.nd (q_range1 (by rfl) m_range (q_cons (q_call G__law_draw hr (by rfl) (q_cons (q_var 0) (q_cons (q_add (q_var 1) q_int) q_nil))) q_nil)) (blkOk_by (N := N__law_draw_row) (sc := defScope st__law_draw_row) (own := [("k", 4)]) (by decide +kernel)) (fun _ _ _ _ _ => (q_gname (i := 4) sc__law_draw_row.nd rfl (by first | exact .inl rfl | exact .inr rfl))) (fun _ _ _ _ _ => q_tsnil) (fun _ _ _ _ _ => (q_tup (q_cons (q_add (q_var 3) (q_var 4)) (q_cons (q_sub (q_call G__law_draw hr (by rfl) (q_cons (q_var 0) (q_cons (q_add (q_mul q_int (q_var 2)) q_int) q_nil))) (q_var 2)) q_nil)))))) q_nil))))), pure_⟩
abbrev st__law_done : Stmt := topS 30
theorem sc__law_done : FnScope N__law_done ["s", "row"] (defScope st__law_done) := ⟨rfl, rfl, rfl, by decide +kernel, rfl, by decide +kernel, by decide +kernel⟩
theorem ok__law_done {P : Program} {w : World} {K : PySem.W.Frag} {mg : Str → Option Value} {base : Heap} {T : List Addr} {f : Addr} {fd : FuncData} (F : Fun K "_law_done" "_law_done" st__law_done f fd) (hmg : mg "_law_done" = some (.ref f)) (hb : Binds K fd ["s", "row"] [])
  {S__law_numbers : SP3} (G__law_numbers : Fn3 P w K mg base T 8 "_law_numbers" ["row"] S__law_numbers)
  {S__law_plus : SP3} (G__law_plus : Fn3 P w K mg base T 24 "_law_plus" ["a", "b"] S__law_plus)
  {S__law_fr : SP3} (G__law_fr : Fn3 P w K mg base T 16 "_law_fr" ["a", "b"] S__law_fr)
  (m_dict : mg "dict" = none)
  {S : SP3} (len : ∀ ds M R, S ds M R → ds.length = 2) (pure_ : ∀ ds M R, wfM M.length M → S ds M R → (W__law_done S__law_numbers S__law_plus S__law_fr) (ends3 M.length R) (start3 N__law_done ds) M) : Fn3 P w K mg base T 32 "_law_done" ["s", "row"] S :=
  fn3 (k := 31) F sc__law_done len hmg hb fun cdv A outer s H E hr => ⟨(W__law_done S__law_numbers S__law_plus S__law_fr), (q_bcons (q_set (i := 2) sc__law_done.nd rfl (by first | exact .inl rfl | exact .inr rfl) q_dnew)
  (q_bcons (q_set (i := 3) sc__law_done.nd rfl (by first | exact .inl rfl | exact .inr rfl) (q_call G__law_numbers hr (by rfl) (q_cons (q_var 1) q_nil)))
  (q_bcons (q_for PassesOwn.never rfl (q_iterT (q_var 0)) (q_gtup rfl (q_gcons (q_gname (i := 4) sc__law_done.nd rfl (by first | exact .inl rfl | exact .inr rfl)) (q_gcons (q_gname (i := 5) sc__law_done.nd rfl (by first | exact .inl rfl | exact .inr rfl)) q_gnil)))
  (q_bone (q_lock (q_for PassesOwn.never rfl (q_keys (q_var 3)) (q_gname (i := 6) sc__law_done.nd rfl (by first | exact .inl rfl | exact .inr rfl))
  (q_bone (q_asg (q_call G__law_plus hr (by rfl) (q_cons (q_get2 hr (q_var 2) (q_add (q_var 6) (q_var 4)) (q_tup (q_cons q_int (q_cons q_int q_nil))) ⟨by rfl, by rfl, by rfl, by rfl⟩) (q_cons (q_tup (q_cons (q_mul (q_sub1 hr (q_var 5) q_int) (q_sub1 hr (q_var 3) (q_var 6))) (q_cons (q_sub1 hr (q_var 5) q_int) q_nil))) q_nil))) (q_gsub hr (q_var 2) (q_add (q_var 6) (q_var 4)))))))))
  (q_bone (q_lock (q_ret (q_dictP rfl (by rfl) m_dict (q_lc (own := [("p", 6)]) rfl sc__law_done.nd (q_keys (q_var 2)) (blkOk_by (N := N__law_done) (sc := defScope st__law_done) (own := [("p", 6)]) (by decide +kernel)) (fun _ _ _ _ _ => (q_gname (i := 6) sc__law_done.nd rfl (by first | exact .inl rfl | exact .inr rfl))) (fun _ _ _ _ _ => q_tsnil) (fun _ _ _ _ _ => (q_tup (q_cons (q_var 6) (q_cons (q_call G__law_fr hr (by rfl) (q_cons (q_sub1 hr (q_sub1 hr (q_var 2) (q_var 6)) q_int) (q_cons (q_sub1 hr (q_sub1 hr (q_var 2) (q_var 6)) q_int) q_nil))) q_nil)))))))))))), pure_⟩
abbrev st__law_numbers : Stmt := topS 31
theorem sc__law_numbers : FnScope N__law_numbers ["row"] (defScope st__law_numbers) := ⟨rfl, rfl, rfl, by decide +kernel, rfl, by decide +kernel, by decide +kernel⟩
theorem ok__law_numbers {P : Program} {w : World} {K : PySem.W.Frag} {mg : Str → Option Value} {base : Heap} {T : List Addr} {f : Addr} {fd : FuncData} (F : Fun K "_law_numbers" "_law_numbers" st__law_numbers f fd) (hmg : mg "_law_numbers" = some (.ref f)) (hb : Binds K fd ["row"] [])
  (m_dict : mg "dict" = none)
  (m_len : mg "len" = none)
  (m_range : mg "range" = none)
  {S : SP3} (len : ∀ ds M R, S ds M R → ds.length = 1) (pure_ : ∀ ds M R, wfM M.length M → S ds M R → (W__law_numbers) (ends3 M.length R) (start3 N__law_numbers ds) M) : Fn3 P w K mg base T 8 "_law_numbers" ["row"] S :=
  fn3 (k := 7) F sc__law_numbers len hmg hb fun cdv A outer s H E hr => ⟨(W__law_numbers), (q_bone (q_ret (q_dictP rfl (by rfl) m_dict (q_lc (own := [("k", 1)]) rfl sc__law_numbers.nd (q_range1 (by rfl) m_range (q_cons (q_len (by rfl) m_len (q_cons (q_sub1 hr (q_var 0) q_int) q_nil)) q_nil)) (blkOk_by (N := N__law_numbers) (sc := defScope st__law_numbers) (own := [("k", 1)]) (by decide +kernel)) (fun _ _ _ _ _ => (q_gname (i := 1) sc__law_numbers.nd rfl (by first | exact .inl rfl | exact .inr rfl))) (fun _ _ _ _ _ => q_tsnil) (fun _ _ _ _ _ => (q_tup (q_cons (q_add (q_sub1 hr (q_var 0) q_int) (q_var 1)) (q_cons (q_sub1 hr (q_sub1 hr (q_var 0) q_int) (q_var 1)) q_nil)))))))), pure_⟩
abbrev st__law_sum : Stmt := topS 32
theorem sc__law_sum : FnScope N__law_sum ["bag", "taps", "shift", "belows", "above"] (defScope st__law_sum) := ⟨rfl, rfl, rfl, by decide +kernel, rfl, by decide +kernel, by decide +kernel⟩
theorem ok__law_sum {P : Program} {w : World} {K : PySem.W.Frag} {mg : Str → Option Value} {base : Heap} {T : List Addr} {f : Addr} {fd : FuncData} (F : Fun K "_law_sum" "_law_sum" st__law_sum f fd) (hmg : mg "_law_sum" = some (.ref f)) (hb : Binds K fd ["bag", "taps", "shift", "belows", "above"] [])
  {S__law_draw : SP3} (G__law_draw : Fn3 P w K mg base T 8 "_law_draw" ["bag", "many"] S__law_draw)
  {S__law_fr : SP3} (G__law_fr : Fn3 P w K mg base T 16 "_law_fr" ["a", "b"] S__law_fr)
  {S__law_pick : SP3} (G__law_pick : Fn3 P w K mg base T 16 "_law_pick" ["bag", "some"] S__law_pick)
  (m_range : mg "range" = none)
  (m_tuple : mg "tuple" = none)
  (m_sorted : mg "sorted" = none)
  {S : SP3} (len : ∀ ds M R, S ds M R → ds.length = 5) (pure_ : ∀ ds M R, wfM M.length M → S ds M R → (W__law_sum S__law_draw S__law_fr S__law_pick) (ends3 M.length R) (start3 N__law_sum ds) M) : Fn3 P w K mg base T 24 "_law_sum" ["bag", "taps", "shift", "belows", "above"] S :=
  fn3 (k := 23) F sc__law_sum len hmg hb fun cdv A outer s H E hr => ⟨(W__law_sum S__law_draw S__law_fr S__law_pick), (q_bcons (q_set (i := 5) sc__law_sum.nd rfl (by first | exact .inl rfl | exact .inr rfl) q_dnew)
  (q_bcons (q_for PassesOwn.never rfl (q_range1 (by rfl) m_range (q_cons (q_add q_int (q_call G__law_draw hr (by rfl) (q_cons (q_var 0) (q_cons (q_var 1) q_nil)))) q_nil)) (q_gname (i := 6) sc__law_sum.nd rfl (by first | exact .inl rfl | exact .inr rfl))
  (q_bcons (q_set (i := 7) sc__law_sum.nd rfl (by first | exact .inl rfl | exact .inr rfl) (q_add q_int (q_call G__law_draw hr (by rfl) (q_cons (q_var 0) (q_cons (q_var 4) q_nil)))))
  (q_bone (q_asg (q_call G__law_fr hr (by rfl) (q_cons (q_ifE (q_eqT hr (q_call G__law_draw hr (by rfl) (q_cons (q_var 0) (q_cons q_int q_nil))) q_int) (q_var 7) (q_sub q_int (q_var 7))) (q_cons (q_call G__law_pick hr (by rfl) (q_cons (q_var 0) (q_cons (q_var 3) q_nil))) q_nil))) (q_gsub hr (q_var 5) (q_sub (q_call G__law_draw hr (by rfl) (q_cons (q_var 0) (q_cons (q_add (q_mul q_int (q_var 2)) q_int) q_nil))) (q_var 2)))))))
  (q_bone (q_ret (q_tupL (q_lc (own := [("s", 8)]) rfl sc__law_sum.nd (q_iter (q_new (q_sortD rfl (by rfl) m_sorted (q_var 5)))) (blkOk_by (N := N__law_sum) (sc := defScope st__law_sum) (own := [("s", 8)]) (by decide +kernel)) (fun _ _ _ _ _ => (q_gname (i := 8) sc__law_sum.nd rfl (by first | exact .inl rfl | exact .inr rfl))) (fun _ _ _ _ _ => q_tsnil) (fun _ _ _ _ _ => (q_tup (q_cons (q_var 8) (q_cons (q_sub1 hr (q_var 5) (q_var 8)) q_nil))))) (by rfl) m_tuple))))), pure_⟩
abbrev st__law_handed : Stmt := topS 33
theorem sc__law_handed : FnScope N__law_handed ["s", "rule", "row"] (defScope st__law_handed) := ⟨rfl, rfl, rfl, by decide +kernel, rfl, by decide +kernel, by decide +kernel⟩
theorem ok__law_handed {P : Program} {w : World} {K : PySem.W.Frag} {mg : Str → Option Value} {base : Heap} {T : List Addr} {f : Addr} {fd : FuncData} (F : Fun K "_law_handed" "_law_handed" st__law_handed f fd) (hmg : mg "_law_handed" = some (.ref f)) (hb : Binds K fd ["s", "rule", "row"] [])
  {S__law_done : SP3} (G__law_done : Fn3 P w K mg base T 32 "_law_done" ["s", "row"] S__law_done)
  {S__law_plus : SP3} (G__law_plus : Fn3 P w K mg base T 24 "_law_plus" ["a", "b"] S__law_plus)
  {S__law_round : SP3} (G__law_round : Fn3 P w K mg base T 8 "_law_round" ["rule", "a", "b"] S__law_round)
  {S__law_fr : SP3} (G__law_fr : Fn3 P w K mg base T 16 "_law_fr" ["a", "b"] S__law_fr)
  {S__law_row : SP3} (G__law_row : Fn3 P w K mg base T 8 "_law_row" ["numbers"] S__law_row)
  (m_sorted : mg "sorted" = none)
  (m_list : mg "list" = none)
  (m_range : mg "range" = none)
  {S : SP3} (len : ∀ ds M R, S ds M R → ds.length = 3) (pure_ : ∀ ds M R, wfM M.length M → S ds M R → (W__law_handed S__law_done S__law_plus S__law_round S__law_fr S__law_row) (ends3 M.length R) (start3 N__law_handed ds) M) : Fn3 P w K mg base T 40 "_law_handed" ["s", "rule", "row"] S :=
  fn3 (k := 39) F sc__law_handed len hmg hb fun cdv A outer s H E hr => ⟨(W__law_handed S__law_done S__law_plus S__law_round S__law_fr S__law_row), (q_bcons (q_set (i := 3) sc__law_handed.nd rfl (by first | exact .inl rfl | exact .inr rfl) (q_call G__law_done hr (by rfl) (q_cons (q_var 0) (q_cons (q_var 2) q_nil))))
  (q_bcons (q_lock (q_set (i := 4) sc__law_handed.nd rfl (by first | exact .inl rfl | exact .inr rfl) (q_new (q_sortI (k := 0) (QL.co (q_lc (own := [("p", 5)]) rfl sc__law_handed.nd (q_keys (q_var 3)) (blkOk_by (N := N__law_handed) (sc := defScope st__law_handed) (own := [("p", 5)]) (by decide +kernel)) (fun _ _ _ _ _ => (q_gname (i := 5) sc__law_handed.nd rfl (by first | exact .inl rfl | exact .inr rfl))) (fun _ _ _ _ _ => (q_tsone (q_neT hr (q_sub1 hr (q_sub1 hr (q_var 3) (q_var 5)) q_int) q_int))) (fun _ _ _ _ _ => (q_var 5)))) hr (by rfl) m_sorted))))
  (q_bcons (q_par3 (i := 6) (j := 7) (l := 8) rfl sc__law_handed.nd rfl rfl rfl (by decide) (by decide) (by decide) rfl rfl rfl (q_cons q_dnew (q_cons (q_tup (q_cons q_int (q_cons q_int q_nil))) (q_cons q_int q_nil))) (by rfl))
  (q_bcons (q_for PassesOwn.never rfl (q_iter (q_ifE (q_neNil (kk := 0) hr (q_var 4)) (q_new (q_lrg rfl (by rfl) m_list (by rfl) m_range (q_sub1 hr (q_var 4) q_int) (q_add (q_sub1 hr (q_var 4) (q_neg q_int)) q_int))) (q_new (q_lst q_nil)))) (q_gname (i := 5) sc__law_handed.nd rfl (by first | exact .inl rfl | exact .inr rfl))
  (q_bcons (q_set (i := 7) sc__law_handed.nd rfl (by first | exact .inl rfl | exact .inr rfl) (q_call G__law_plus hr (by rfl) (q_cons (q_var 7) (q_cons (q_get2 hr (q_var 3) (q_var 5) (q_tup (q_cons q_int (q_cons q_int q_nil))) ⟨by rfl, by rfl, by rfl, by rfl⟩) q_nil))))
  (q_bcons (q_set (i := 9) sc__law_handed.nd rfl (by first | exact .inl rfl | exact .inr rfl) (q_call G__law_round hr (by rfl) (q_cons (q_var 1) (q_cons (q_sub1 hr (q_var 7) q_int) (q_cons (q_sub1 hr (q_var 7) q_int) q_nil)))))
  (q_bcons (q_asg (q_sub (q_var 9) (q_var 8)) (q_gsub hr (q_var 6) (q_var 5)))
  (q_bone (q_set (i := 8) sc__law_handed.nd rfl (by first | exact .inl rfl | exact .inr rfl) (q_var 9)))))))
  (q_bone (q_ret (q_tup (q_cons (q_call G__law_row hr (by rfl) (q_cons (q_var 6) q_nil)) (q_cons (q_call G__law_fr hr (by rfl) (q_cons (q_sub (q_sub1 hr (q_var 7) q_int) (q_mul (q_var 8) (q_sub1 hr (q_var 7) q_int))) (q_cons (q_sub1 hr (q_var 7) q_int) q_nil))) q_nil))))))))), pure_⟩
abbrev st__law_case : Stmt := topS 34
theorem sc__law_case : FnScope N__law_case ["bag"] (defScope st__law_case) := ⟨rfl, rfl, rfl, by decide +kernel, rfl, by decide +kernel, by decide +kernel⟩
theorem ok__law_case {P : Program} {w : World} {K : PySem.W.Frag} {mg : Str → Option Value} {base : Heap} {T : List Addr} {f : Addr} {fd : FuncData} (F : Fun K "_law_case" "_law_case" st__law_case f fd) (hmg : mg "_law_case" = some (.ref f)) (hb : Binds K fd ["bag"] [])
  {S__law_draw : SP3} (G__law_draw : Fn3 P w K mg base T 8 "_law_draw" ["bag", "many"] S__law_draw)
  {S__law_pick : SP3} (G__law_pick : Fn3 P w K mg base T 16 "_law_pick" ["bag", "some"] S__law_pick)
  {S__law_draw_row : SP3} (G__law_draw_row : Fn3 P w K mg base T 16 "_law_draw_row" ["bag", "most", "size"] S__law_draw_row)
  {S__law_sum : SP3} (G__law_sum : Fn3 P w K mg base T 24 "_law_sum" ["bag", "taps", "shift", "belows", "above"] S__law_sum)
  (m_len : mg "len" = none)
  {S : SP3} (len : ∀ ds M R, S ds M R → ds.length = 1) (pure_ : ∀ ds M R, wfM M.length M → S ds M R → (W__law_case S__law_draw S__law_pick S__law_draw_row S__law_sum) (ends3 M.length R) (start3 N__law_case ds) M) : Fn3 P w K mg base T 32 "_law_case" ["bag"] S :=
  fn3 (k := 31) F sc__law_case len hmg hb fun cdv A outer s H E hr => ⟨(W__law_case S__law_draw S__law_pick S__law_draw_row S__law_sum), (q_bcons (q_set (i := 1) sc__law_case.nd rfl (by first | exact .inl rfl | exact .inr rfl) (q_call G__law_draw hr (by rfl) (q_cons (q_var 0) (q_cons q_int q_nil))))
  (q_bcons (q_set (i := 2) sc__law_case.nd rfl (by first | exact .inl rfl | exact .inr rfl) (q_call G__law_pick hr (by rfl) (q_cons (q_var 0) (q_cons (q_new (q_lst (q_cons q_int (q_cons q_int (q_cons q_int (q_cons q_int (q_cons (q_pow q_int q_int) q_nil))))))) q_nil))))
  (q_bcons (q_set (i := 3) sc__law_case.nd rfl (by first | exact .inl rfl | exact .inr rfl) (q_call G__law_draw_row hr (by rfl) (q_cons (q_var 0) (q_cons q_int (q_cons (q_var 2) q_nil)))))
  (q_bcons (q_set (i := 4) sc__law_case.nd rfl (by first | exact .inl rfl | exact .inr rfl) (q_call G__law_sum hr (by rfl) (q_cons (q_var 0) (q_cons q_int (q_cons q_int (q_cons (q_call G__law_pick hr (by rfl) (q_cons (q_var 0) (q_cons (q_new (q_lst (q_cons (q_new (q_lst (q_cons q_int q_nil))) (q_cons (q_new (q_lst (q_cons q_int q_nil))) (q_cons (q_new (q_lst (q_cons q_int (q_cons q_int q_nil)))) (q_cons (q_new (q_lst (q_cons q_int (q_cons q_int (q_cons q_int q_nil))))) (q_cons (q_new (q_lst (q_cons q_int (q_cons q_int q_nil)))) q_nil))))))) q_nil))) (q_cons q_int q_nil)))))))
  (q_bcons (q_if (q_eqT hr (q_var 1) q_int)
  (q_bone (q_set (i := 4) sc__law_case.nd rfl (by first | exact .inl rfl | exact .inr rfl) (q_tup q_nil)))
  q_bnil)
  (q_bcons (q_if (q_eqT hr (q_var 1) q_int)
  (q_bcons (q_set (i := 4) sc__law_case.nd rfl (by first | exact .inl rfl | exact .inr rfl) (q_tup (q_cons (q_tup (q_cons q_int (q_cons (q_tup (q_cons q_int (q_cons q_int q_nil))) q_nil))) (q_cons (q_tup (q_cons q_int (q_cons (q_tup (q_cons (q_neg q_int) (q_cons q_int q_nil))) q_nil))) q_nil))))
  (q_bone (q_set (i := 3) sc__law_case.nd rfl (by first | exact .inl rfl | exact .inr rfl) (q_ifE (q_neT hr (q_sub1 hr (q_var 3) q_int) (q_tup q_nil)) (q_tup (q_cons (q_sub1 hr (q_var 3) q_int) (q_cons (q_mul (q_tup (q_cons (q_var 2) q_nil)) (q_len (by rfl) m_len (q_cons (q_sub1 hr (q_var 3) q_int) q_nil))) q_nil))) (q_var 3)))))
  q_bnil)
  (q_bone (q_ret (q_tup (q_cons (q_var 4) (q_cons (q_var 3) q_nil))))))))))), pure_⟩
abbrev st_law : Stmt := topS 35
theorem sc_law : FnScope N_law ["script"] (defScope st_law) := ⟨rfl, rfl, rfl, by decide +kernel, rfl, by decide +kernel, by decide +kernel⟩
theorem ok_law {P : Program} {w : World} {K : PySem.W.Frag} {mg : Str → Option Value} {base : Heap} {T : List Addr} {f : Addr} {fd : FuncData} (F : Fun K "law" "law" st_law f fd)
  {S__law_bag : SP3} (G__law_bag : Fn3 P w K mg base T 8 "_law_bag" ["script"] S__law_bag)
  {S__law_case : SP3} (G__law_case : Fn3 P w K mg base T 32 "_law_case" ["bag"] S__law_case)
  {S__law_handed : SP3} (G__law_handed : Fn3 P w K mg base T 40 "_law_handed" ["s", "rule", "row"] S__law_handed)
  {S_handed : SP3} (G_handed : Fn3 P w K mg base T 48 "handed" ["s", "rule", "row"] S_handed)
  {S__law_same : SP3} (G__law_same : Fn3 P w K mg base T 8 "_law_same" ["found", "due"] S__law_same)
  {S_handed_rest : SP3} (G_handed_rest : Fn3 P w K mg base T 48 "handed_rest" ["s", "rule", "row"] S_handed_rest)
  (m_range : mg "range" = none)
  (kb_handed_0 : ∀ f fd, mg "handed" = some (.ref f) → LookF K f fd → KBinds K fd ["s", "rule", "row"] ["row", "rule", "s"] (gK 3 [2, 1, 0]) (gK 3 [2, 1, 0]))
  (kb_handed_rest_0 : ∀ f fd, mg "handed_rest" = some (.ref f) → LookF K f fd → KBinds K fd ["s", "rule", "row"] ["row", "rule", "s"] (gK 3 [2, 1, 0]) (gK 3 [2, 1, 0]))
  {Gd : D → Mem → Prop} (p1 : ∀ sc : List Int, sc.length ≤ 63 → (W_law_1 S__law_bag S__law_case S__law_handed S_handed S__law_same S_handed_rest) (ends1 N_law.length Gd) (start3 N_law [.rol (sc.map .int)]) [] ∧ (W_law_1 S__law_bag S__law_case S__law_handed S_handed S__law_same S_handed_rest) (ends1 N_law.length Gd) (start3 N_law [.loc 0]) [.lst (sc.map .int)])
  (p2 : ∀ d M, Gd d M → (W_law_2 S__law_bag S__law_case S__law_handed S_handed S__law_same S_handed_rest) endsT (env2 N_law.length d) M) : FnOk P w K mg base CX0 56 f fd ["script"] (spLaw K T) :=
  fn_law (k := 55) (w1 := W_law_1 S__law_bag S__law_case S__law_handed S_handed S__law_same S_handed_rest) (w2 := W_law_2 S__law_bag S__law_case S__law_handed S_handed S__law_same S_handed_rest) F sc_law rfl (by decide) (fun cdv A outer s H E hr => ⟨(q_set (i := 1) sc_law.nd rfl (by first | exact .inl rfl | exact .inr rfl) (q_call G__law_bag hr (by rfl) (q_cons (q_var 0) q_nil))), (q_bcons (q_for PassesOwn.never rfl (q_range1 (by rfl) m_range (q_cons q_int q_nil)) (q_gname (i := 2) sc_law.nd rfl (by first | exact .inl rfl | exact .inr rfl))
  (q_bcons (q_asg (q_call G__law_case hr (by rfl) (q_cons (q_var 1) q_nil)) (q_gtup rfl (q_gcons (q_gname (i := 4) sc_law.nd rfl (by first | exact .inl rfl | exact .inr rfl)) (q_gcons (q_gname (i := 5) sc_law.nd rfl (by first | exact .inl rfl | exact .inr rfl)) q_gnil))))
  (q_bone (q_for PassesOwn.never rfl (q_iterT (q_tup (q_cons q_str (q_cons q_str (q_cons q_str (q_cons q_str q_nil)))))) (q_gname (i := 3) sc_law.nd rfl (by first | exact .inl rfl | exact .inr rfl))
  (q_bcons (q_set (i := 6) sc_law.nd rfl (by first | exact .inl rfl | exact .inr rfl) (q_call G__law_handed hr (by rfl) (q_cons (q_var 4) (q_cons (q_var 3) (q_cons (q_var 5) q_nil)))))
  (q_bcons (q_set (i := 7) sc_law.nd rfl (by first | exact .inl rfl | exact .inr rfl) (q_ifE (q_gtT (q_var 2) q_int) (q_call G_handed hr (by rfl) (q_cons (q_var 4) (q_cons (q_var 3) (q_cons (q_var 5) q_nil)))) (q_callK0 (n := 3) (ix := [2, 1, 0]) G_handed hr (by rfl) (q_kcons (q_var 5) (q_kcons (q_var 3) (q_kcons (q_var 4) q_knil))) kb_handed_0)))
  (q_bcons (q_if (q_notT (q_tru (q_call G__law_same hr (by rfl) (q_cons (q_var 7) (q_cons (q_sub1 hr (q_var 6) q_int) q_nil)))))
  (q_bone (q_ret q_bl))
  q_bnil)
  (q_bcons (q_set (i := 7) sc_law.nd rfl (by first | exact .inl rfl | exact .inr rfl) (q_ifE (q_gtT (q_var 2) q_int) (q_call G_handed_rest hr (by rfl) (q_cons (q_var 4) (q_cons (q_var 3) (q_cons (q_var 5) q_nil)))) (q_callK0 (n := 3) (ix := [2, 1, 0]) G_handed_rest hr (by rfl) (q_kcons (q_var 5) (q_kcons (q_var 3) (q_kcons (q_var 4) q_knil))) kb_handed_rest_0)))
  (q_bone (q_if (q_notT (q_tru (q_call G__law_same hr (by rfl) (q_cons (q_var 7) (q_cons (q_sub1 hr (q_var 6) q_int) q_nil)))))
  (q_bone (q_ret q_bl))
  q_bnil))))))))))
  (q_bone (q_ret q_bl)))⟩) p1 p2
end K75
set_option Elab.async false
set_option linter.all false
set_option maxRecDepth 100000
set_option maxHeartbeats 4000000
namespace K75
open PySem PySem.Spec PyProof.Rows L2 Gx R3

/-! ### Euclid -/
def S_divisor : SP3 := fun ds M R => ∃ a b : Int, ds = [.int a, .int b] ∧ R (.int (Int.gcd a b)) M
theorem P_divisor : ∀ ds M R, wfM M.length M → S_divisor ds M R → W_divisor (ends3 M.length R) (start3 N_divisor ds) M := by
  rintro _ M R wf ⟨a, b, rfl, h⟩
  simp only [W_divisor, N_divisor, wSeq, wAsg, wCall, wCons, wNil, wVar, wC, wBin, wRet, wIfS, wTst, wGn, wPar, wPar3, wTup, wNeg, wCB, wNext, wNotT, wAndT, wOrT, wTru, wIf, wDrop, oAdd, oSub, oMul, oDiv, oMod, oPow, oI, oI0, oIB, oLt, oLe, oGt, oGe, oAt, oIx, oEq, oNe, oEqK, cAbs, cInt, cLen, wBrk, wCnt, wIsi, wAndV, wOrV, wNotV, D.ty, Ty.sub, D.truth, oIsK, D.isN, wRetN, wGsub, wGet2, D.key, wGcons, wGnil, wGtup, wTupL, wNew, wLst, wDNew, wYes, wIterT, wIter, wRg1, wRg2, wEnum, wFor, wLc, wDc, wCat, wKeys, wPop, wReverse, wAppend, wEmp, wDictP, wSortI, wSortD, wLrg, wCallK, start3, List.map_cons, List.map_nil, List.cons_append, List.nil_append, List.getElem?_cons_zero, List.getElem?_cons_succ, List.set_cons_zero, List.set_cons_succ, List.length_cons, List.length_nil, List.replicate_succ, List.replicate_zero, Option.bind_some, Bool.true_xor, Bool.false_xor, Bool.xor_false, Bool.not_true, Bool.not_false, if_true, if_false, Bool.false_eq_true, wipeE]
  have ea : ∀ x : Int, (if x < 0 then -x else x) = (x.natAbs : Int) := fun x => by split <;> omega
  rw [ea, ea]
  refine while_inv (fun n env M' => M' = M ∧ ∃ x y : Nat, env = [some (.int x), some (.int y)] ∧ y ≤ n ∧ Nat.gcd x y = Int.gcd a b) b.natAbs ⟨rfl, a.natAbs, b.natAbs, rfl, Nat.le_refl _, rfl⟩ ?_
  rintro n env M' E' ⟨rfl, x, y, rfl, hy, hg⟩ hnx hct hrt hbk
  simp only [wSeq, wAsg, wCall, wCons, wNil, wVar, wC, wBin, wRet, wIfS, wTst, wGn, wPar, wPar3, wTup, wNeg, wCB, wNext, wNotT, wAndT, wOrT, wTru, wIf, wDrop, oAdd, oSub, oMul, oDiv, oMod, oPow, oI, oI0, oIB, oLt, oLe, oGt, oGe, oAt, oIx, oEq, oNe, oEqK, cAbs, cInt, cLen, wBrk, wCnt, wIsi, wAndV, wOrV, wNotV, D.ty, Ty.sub, D.truth, oIsK, D.isN, wRetN, wGsub, wGet2, D.key, wGcons, wGnil, wGtup, wTupL, wNew, wLst, wDNew, wYes, wIterT, wIter, wRg1, wRg2, wEnum, wFor, wLc, wDc, wCat, wKeys, wPop, wReverse, wAppend, wEmp, wDictP, wSortI, wSortD, wLrg, wCallK, start3, List.map_cons, List.map_nil, List.cons_append, List.nil_append, List.getElem?_cons_zero, List.getElem?_cons_succ, List.set_cons_zero, List.set_cons_succ, List.length_cons, List.length_nil, List.replicate_succ, List.replicate_zero, Option.bind_some, Bool.true_xor, Bool.false_xor, Bool.xor_false, Bool.not_true, Bool.not_false, if_true, if_false, Bool.false_eq_true, wipeE]
  by_cases h0 : y = 0
  · subst h0
    rw [show (((0 : Nat) : Int) != 0) = false from rfl, if_neg (by decide)]
    refine ret_same wf trivial ?_
    rw [Nat.gcd_zero_right] at hg
    rw [hg]
    exact h
  · have hne : ((y : Int) != 0) = true := by simp; omega
    rw [hne, if_pos rfl]
    refine ⟨by omega, hnx (x % y) _ _ ?_ ⟨rfl, y, x % y, ?_, Nat.le_refl _, ?_⟩⟩
    · have := Nat.mod_lt x (Nat.pos_of_ne_zero h0); omega
    · rw [Int.fmod_eq_emod_of_nonneg _ (by omega)]
      rfl
    · rw [← hg, Nat.gcd_comm x y]
      rw [Nat.gcd_rec y x]
      exact Nat.gcd_comm _ _

/-! ### rationals -/
def qD (q : Rat) : D := .tup [.int q.num, .int q.den]
theorem qD_divInt {a b : Int} (hb : 0 < b) : D.tup [.int (a / (Int.gcd a b : Int)), .int (b / (Int.gcd a b : Int))] = qD (Rat.divInt a b) := by
  unfold qD
  rw [Rat.num_divInt, Rat.den_divInt, if_neg (by omega), Int.sign_eq_one_of_pos hb, Int.one_mul, Int.gcd_comm b a]
  congr 4
  have h1 : ((b.natAbs : Nat) : Int) = b := by omega
  rw [Int.natCast_ediv, h1]
theorem log_lt {n k : Nat} (h : n < 2 ^ k) (hk : 0 < k) : n.log2 < k := by
  by_cases h0 : n = 0
  · subst h0
    rw [Nat.log2_zero]
    exact hk
  · exact (Nat.log2_lt h0).mpr h
theorem mulW {i j : Int} (hi : i.natAbs < 2 ^ 200) (hj : j.natAbs < 2 ^ 200) : CMulW i j := by
  have h1 := log_lt hi (by decide)
  have h2 := log_lt hj (by decide)
  unfold CMulW
  omega
theorem divW {i j : Int} (h0 : 0 < j) (hj : j.natAbs < 2 ^ 200) : CDivW i j := by
  have h2 := log_lt hj (by decide)
  exact ⟨h0, by omega⟩
theorem gcd_pos {a b : Int} (hb : 0 < b) : 0 < (Int.gcd a b : Int) ∧ (Int.gcd a b) ≤ b.natAbs := by
  have h1 : 0 < Int.gcd a b := Int.gcd_pos_of_ne_zero_right _ (by omega)
  refine ⟨by omega, ?_⟩
  exact Nat.le_of_dvd (by omega) (Int.gcd_dvd_natAbs_right a b)
def S_lowest : SP3 := fun ds M R => ∃ a b : Int, ds = [.int a, .int b] ∧ 0 < b ∧ b < 2 ^ 60 ∧ R (qD (Rat.divInt a b)) M
theorem P_lowest : ∀ ds M R, wfM M.length M → S_lowest ds M R → W_lowest S_divisor (ends3 M.length R) (start3 N_lowest ds) M := by
  rintro _ M R wf ⟨a, b, rfl, hb, hb2, h⟩
  simp only [W_lowest, N_lowest, wSeq, wAsg, wCall, wCons, wNil, wVar, wC, wBin, wRet, wIfS, wTst, wGn, wPar, wPar3, wTup, wNeg, wCB, wNext, wNotT, wAndT, wOrT, wTru, wIf, wDrop, oAdd, oSub, oMul, oDiv, oMod, oPow, oI, oI0, oIB, oLt, oLe, oGt, oGe, oAt, oIx, oEq, oNe, oEqK, cAbs, cInt, cLen, wBrk, wCnt, wIsi, wAndV, wOrV, wNotV, D.ty, Ty.sub, D.truth, oIsK, D.isN, wRetN, wGsub, wGet2, D.key, wGcons, wGnil, wGtup, wTupL, wNew, wLst, wDNew, wYes, wIterT, wIter, wRg1, wRg2, wEnum, wFor, wLc, wDc, wCat, wKeys, wPop, wReverse, wAppend, wEmp, wDictP, wSortI, wSortD, wLrg, wCallK, start3, List.map_cons, List.map_nil, List.cons_append, List.nil_append, List.getElem?_cons_zero, List.getElem?_cons_succ, List.set_cons_zero, List.set_cons_succ, List.length_cons, List.length_nil, List.replicate_succ, List.replicate_zero, Option.bind_some, Bool.true_xor, Bool.false_xor, Bool.xor_false, Bool.not_true, Bool.not_false, if_true, if_false, Bool.false_eq_true, wipeE]
  refine ⟨a, b, rfl, ?_⟩
  obtain ⟨g1, g2⟩ := gcd_pos (a := a) hb
  simp only [decide_eq_true_eq, if_neg (show ¬ b < 0 by omega)]
  refine ⟨divW g1 (by omega), divW g1 (by omega), by decide, ?_⟩
  rw [qD_divInt hb]
  exact ret_same wf ⟨trivial, trivial, trivial⟩ h
/-- plus, minus: of two pairs -/
def S_pm (f : Rat → Rat → Rat) : SP3 := fun ds M R => ∃ a b c d : Int, ds = [.tup [.int a, .int b], .tup [.int c, .int d]] ∧ 0 < b ∧ b < 2 ^ 30 ∧ 0 < d ∧ d < 2 ^ 30 ∧ a.natAbs < 2 ^ 190 ∧ c.natAbs < 2 ^ 190 ∧ R (qD (f (Rat.divInt a b) (Rat.divInt c d))) M
theorem at0 {x y : D} : atI [x, y] 0 = some x := rfl
theorem at1 {x y : D} : atI [x, y] 1 = some y := rfl
theorem P_plus : ∀ ds M R, wfM M.length M → S_pm (· + ·) ds M R → W_plus S_lowest (ends3 M.length R) (start3 N_plus ds) M := by
  rintro _ M R wf ⟨a, b, c, d, rfl, hb, hb2, hd, hd2, ha, hc, h⟩
  simp only [W_plus, N_plus, wSeq, wAsg, wCall, wCons, wNil, wVar, wC, wBin, wRet, wIfS, wTst, wGn, wPar, wPar3, wTup, wNeg, wCB, wNext, wNotT, wAndT, wOrT, wTru, wIf, wDrop, oAdd, oSub, oMul, oDiv, oMod, oPow, oI, oI0, oIB, oLt, oLe, oGt, oGe, oAt, oIx, oEq, oNe, oEqK, cAbs, cInt, cLen, wBrk, wCnt, wIsi, wAndV, wOrV, wNotV, D.ty, Ty.sub, D.truth, oIsK, D.isN, wRetN, wGsub, wGet2, D.key, wGcons, wGnil, wGtup, wTupL, wNew, wLst, wDNew, wYes, wIterT, wIter, wRg1, wRg2, wEnum, wFor, wLc, wDc, wCat, wKeys, wPop, wReverse, wAppend, wEmp, wDictP, wSortI, wSortD, wLrg, wCallK, start3, List.map_cons, List.map_nil, List.cons_append, List.nil_append, List.getElem?_cons_zero, List.getElem?_cons_succ, List.set_cons_zero, List.set_cons_succ, List.length_cons, List.length_nil, List.replicate_succ, List.replicate_zero, Option.bind_some, Bool.true_xor, Bool.false_xor, Bool.xor_false, Bool.not_true, Bool.not_false, if_true, if_false, Bool.false_eq_true, wipeE, at0, at1]
  refine ⟨mulW (by omega) (by omega), mulW (by omega) (by omega), mulW (by omega) (by omega), _, _, rfl, Int.mul_pos hb hd, ?_, ?_⟩
  · have : b * d < 2 ^ 30 * 2 ^ 30 := Int.mul_lt_mul hb2 (by omega) hd (by omega)
    exact this
  · rw [← Rat.divInt_add_divInt _ _ (by omega) (by omega)]
    exact ret_same wf ⟨trivial, trivial, trivial⟩ h
theorem P_minus : ∀ ds M R, wfM M.length M → S_pm (· - ·) ds M R → W_minus S_lowest (ends3 M.length R) (start3 N_minus ds) M := by
  rintro _ M R wf ⟨a, b, c, d, rfl, hb, hb2, hd, hd2, ha, hc, h⟩
  simp only [W_minus, N_minus, wSeq, wAsg, wCall, wCons, wNil, wVar, wC, wBin, wRet, wIfS, wTst, wGn, wPar, wPar3, wTup, wNeg, wCB, wNext, wNotT, wAndT, wOrT, wTru, wIf, wDrop, oAdd, oSub, oMul, oDiv, oMod, oPow, oI, oI0, oIB, oLt, oLe, oGt, oGe, oAt, oIx, oEq, oNe, oEqK, cAbs, cInt, cLen, wBrk, wCnt, wIsi, wAndV, wOrV, wNotV, D.ty, Ty.sub, D.truth, oIsK, D.isN, wRetN, wGsub, wGet2, D.key, wGcons, wGnil, wGtup, wTupL, wNew, wLst, wDNew, wYes, wIterT, wIter, wRg1, wRg2, wEnum, wFor, wLc, wDc, wCat, wKeys, wPop, wReverse, wAppend, wEmp, wDictP, wSortI, wSortD, wLrg, wCallK, start3, List.map_cons, List.map_nil, List.cons_append, List.nil_append, List.getElem?_cons_zero, List.getElem?_cons_succ, List.set_cons_zero, List.set_cons_succ, List.length_cons, List.length_nil, List.replicate_succ, List.replicate_zero, Option.bind_some, Bool.true_xor, Bool.false_xor, Bool.xor_false, Bool.not_true, Bool.not_false, if_true, if_false, Bool.false_eq_true, wipeE, at0, at1]
  refine ⟨mulW (by omega) (by omega), mulW (by omega) (by omega), mulW (by omega) (by omega), _, _, rfl, Int.mul_pos hb hd, ?_, ?_⟩
  · have : b * d < 2 ^ 30 * 2 ^ 30 := Int.mul_lt_mul hb2 (by omega) hd (by omega)
    exact this
  · rw [← Rat.divInt_sub_divInt _ _ (by omega) (by omega)]
    exact ret_same wf ⟨trivial, trivial, trivial⟩ h
/-! ### rounding -/
def rnd (rule : Str) (a b : Int) : Int := if rule = "down" then a / b else if rule = "up" then -(-a / b) else if rule = "near" then (2 * a + b) / (2 * b) else -((b - 2 * a) / (2 * b))
def S_rnd : SP3 := fun ds M R => ∃ (rule : Str) (a b : Int), ds = [.str rule, .int a, .int b] ∧ 0 < b ∧ b < 2 ^ 60 ∧ a.natAbs < 2 ^ 190 ∧ R (.int (rnd rule a b)) M
theorem P_rounded_by : ∀ ds M R, wfM M.length M → S_rnd ds M R → W_rounded_by (ends3 M.length R) (start3 N_rounded_by ds) M := by
  rintro _ M R wf ⟨rule, a, b, rfl, hb, hb2, ha, h⟩
  simp only [W_rounded_by, N_rounded_by, wSeq, wAsg, wCall, wCons, wNil, wVar, wC, wBin, wRet, wIfS, wTst, wGn, wPar, wPar3, wTup, wNeg, wCB, wNext, wNotT, wAndT, wOrT, wTru, wIf, wDrop, oAdd, oSub, oMul, oDiv, oMod, oPow, oI, oI0, oIB, oLt, oLe, oGt, oGe, oAt, oIx, oEq, oNe, oEqK, cAbs, cInt, cLen, wBrk, wCnt, wIsi, wAndV, wOrV, wNotV, D.ty, Ty.sub, D.truth, oIsK, D.isN, wRetN, wGsub, wGet2, D.key, wGcons, wGnil, wGtup, wTupL, wNew, wLst, wDNew, wYes, wIterT, wIter, wRg1, wRg2, wEnum, wFor, wLc, wDc, wCat, wKeys, wPop, wReverse, wAppend, wEmp, wDictP, wSortI, wSortD, wLrg, wCallK, start3, List.map_cons, List.map_nil, List.cons_append, List.nil_append, List.getElem?_cons_zero, List.getElem?_cons_succ, List.set_cons_zero, List.set_cons_succ, List.length_cons, List.length_nil, List.replicate_succ, List.replicate_zero, Option.bind_some, Bool.true_xor, Bool.false_xor, Bool.xor_false, Bool.not_true, Bool.not_false, if_true, if_false, Bool.false_eq_true, wipeE, decide_eq_true_eq]
  unfold rnd at h
  by_cases h1 : rule = "down"
  · rw [if_pos h1] at h ⊢
    exact ⟨divW hb (by omega), ret_same wf trivial h⟩
  · rw [if_neg h1] at h ⊢
    by_cases h2 : rule = "up"
    · rw [if_pos h2] at h ⊢
      exact ⟨divW hb (by omega), ret_same wf trivial h⟩
    · rw [if_neg h2] at h ⊢
      by_cases h3 : rule = "near"
      · rw [if_pos h3] at h ⊢
        exact ⟨mulW (by decide) (by omega), mulW (by decide) (by omega), divW (by omega) (by omega), ret_same wf trivial h⟩
      · rw [if_neg h3] at h ⊢
        exact ⟨mulW (by decide) (by omega), mulW (by decide) (by omega), divW (by omega) (by omega), ret_same wf trivial h⟩
theorem P__law_round : ∀ ds M R, wfM M.length M → S_rnd ds M R → W__law_round (ends3 M.length R) (start3 N__law_round ds) M := by
  rintro _ M R wf ⟨rule, a, b, rfl, hb, hb2, ha, h⟩
  simp only [W__law_round, N__law_round, wSeq, wAsg, wCall, wCons, wNil, wVar, wC, wBin, wRet, wIfS, wTst, wGn, wPar, wPar3, wTup, wNeg, wCB, wNext, wNotT, wAndT, wOrT, wTru, wIf, wDrop, oAdd, oSub, oMul, oDiv, oMod, oPow, oI, oI0, oIB, oLt, oLe, oGt, oGe, oAt, oIx, oEq, oNe, oEqK, cAbs, cInt, cLen, wBrk, wCnt, wIsi, wAndV, wOrV, wNotV, D.ty, Ty.sub, D.truth, oIsK, D.isN, wRetN, wGsub, wGet2, D.key, wGcons, wGnil, wGtup, wTupL, wNew, wLst, wDNew, wYes, wIterT, wIter, wRg1, wRg2, wEnum, wFor, wLc, wDc, wCat, wKeys, wPop, wReverse, wAppend, wEmp, wDictP, wSortI, wSortD, wLrg, wCallK, start3, List.map_cons, List.map_nil, List.cons_append, List.nil_append, List.getElem?_cons_zero, List.getElem?_cons_succ, List.set_cons_zero, List.set_cons_succ, List.length_cons, List.length_nil, List.replicate_succ, List.replicate_zero, Option.bind_some, Bool.true_xor, Bool.false_xor, Bool.xor_false, Bool.not_true, Bool.not_false, if_true, if_false, Bool.false_eq_true, wipeE, decide_eq_true_eq, Int.zero_sub]
  unfold rnd at h
  by_cases h1 : rule = "down"
  · rw [if_pos h1] at h ⊢
    exact ⟨divW hb (by omega), ret_same wf trivial h⟩
  · rw [if_neg h1] at h ⊢
    by_cases h2 : rule = "up"
    · rw [if_pos h2] at h ⊢
      exact ⟨divW hb (by omega), ret_same wf trivial h⟩
    · rw [if_neg h2] at h ⊢
      by_cases h3 : rule = "near"
      · rw [if_pos h3] at h ⊢
        exact ⟨mulW (by decide) (by omega), mulW (by decide) (by omega), divW (by omega) (by omega), ret_same wf trivial h⟩
      · rw [if_neg h3] at h ⊢
        exact ⟨mulW (by decide) (by omega), mulW (by decide) (by omega), divW (by omega) (by omega), ret_same wf trivial h⟩
/-! ### the law's own -/
def S__law_gcd : SP3 := fun ds M R => ∃ a b : Int, ds = [.int a, .int b] ∧ b.natAbs < 2 ^ 60 ∧ R (.int (Int.gcd a b)) M
theorem rgD_length (lo : Int) (n : Nat) : (rgD lo n).length = n := by unfold rgD; simp
theorem gcd_core (n : Int) (hn : n = 2000) : ∀ ds M R, wfM M.length M → S__law_gcd ds M R → (wSeq (wPar 0 1 (wCons (wCB cAbs (wCons (wVar 0) wNil)) (wCons (wCB cAbs (wCons (wVar 1) wNil)) wNil)))
  (wSeq (wFor (wRg1 (wCons (wC (.int n)) wNil)) (wGn 2)
  (wSeq (wIfS (wTst (wBin oEq (wVar 1) (wC (.int 0))))
  wBrk
  wNext)
  (wPar 0 1 (wCons (wVar 1) (wCons (wBin oMod (wCB cInt (wCons (wVar 0) wNil)) (wVar 1)) wNil)))))
  (wRet (wVar 0)))) (ends3 M.length R) (start3 N__law_gcd ds) M := by
  rintro _ M R wf ⟨a, b, rfl, hb, h⟩
  simp only [N__law_gcd, wSeq, wAsg, wCall, wCons, wNil, wVar, wC, wBin, wRet, wIfS, wTst, wGn, wPar, wPar3, wTup, wNeg, wCB, wNext, wNotT, wAndT, wOrT, wTru, wIf, wDrop, oAdd, oSub, oMul, oDiv, oMod, oPow, oI, oI0, oIB, oLt, oLe, oGt, oGe, oAt, oIx, oEq, oNe, oEqK, cAbs, cInt, cLen, wBrk, wCnt, wIsi, wAndV, wOrV, wNotV, D.ty, Ty.sub, D.truth, oIsK, D.isN, wRetN, wGsub, wGet2, D.key, wGcons, wGnil, wGtup, wTupL, wNew, wLst, wDNew, wYes, wIterT, wIter, wRg1, wRg2, wEnum, wFor, wLc, wDc, wCat, wKeys, wPop, wReverse, wAppend, wEmp, wDictP, wSortI, wSortD, wLrg, wCallK, start3, List.map_cons, List.map_nil, List.cons_append, List.nil_append, List.getElem?_cons_zero, List.getElem?_cons_succ, List.set_cons_zero, List.set_cons_succ, List.length_cons, List.length_nil, List.replicate_succ, List.replicate_zero, Option.bind_some, Bool.true_xor, Bool.false_xor, Bool.xor_false, Bool.not_true, Bool.not_false, if_true, if_false, Bool.false_eq_true, wipeE]
  have ea : ∀ x : Int, (if x < 0 then -x else x) = (x.natAbs : Int) := fun x => by split <;> omega
  rw [ea, ea]
  refine ⟨by subst hn; exact ⟨by decide, by decide⟩, ?_⟩
  generalize hL : rgD 0 _ = L
  have hLl : L.length = 2000 := by
    rw [← hL, rgD_length, hn]
    rfl
  clear hL
  refine for_inv (fun l env M' => M' = M ∧ ∃ (x y : Nat) (t : Option D), env = [some (.int x), some (.int y), t] ∧ Nat.gcd x y = Int.gcd a b ∧ ((l.length = 2000 ∧ y < 2 ^ 60) ∨ (l.length < 2000 ∧ y < x ∧ x * y < 2 ^ l.length))) (fun _ _ _ _ => trivial) ?_ ?_ _ _ _ ⟨rfl, a.natAbs, b.natAbs, none, rfl, rfl, .inl ⟨hLl, hb⟩⟩
  · rintro env M' ⟨rfl, x, y, t, rfl, hg, hy⟩
    simp only [wSeq, wAsg, wCall, wCons, wNil, wVar, wC, wBin, wRet, wIfS, wTst, wGn, wPar, wPar3, wTup, wNeg, wCB, wNext, wNotT, wAndT, wOrT, wTru, wIf, wDrop, oAdd, oSub, oMul, oDiv, oMod, oPow, oI, oI0, oIB, oLt, oLe, oGt, oGe, oAt, oIx, oEq, oNe, oEqK, cAbs, cInt, cLen, wBrk, wCnt, wIsi, wAndV, wOrV, wNotV, D.ty, Ty.sub, D.truth, oIsK, D.isN, wRetN, wGsub, wGet2, D.key, wGcons, wGnil, wGtup, wTupL, wNew, wLst, wDNew, wYes, wIterT, wIter, wRg1, wRg2, wEnum, wFor, wLc, wDc, wCat, wKeys, wPop, wReverse, wAppend, wEmp, wDictP, wSortI, wSortD, wLrg, wCallK, start3, List.map_cons, List.map_nil, List.cons_append, List.nil_append, List.getElem?_cons_zero, List.getElem?_cons_succ, List.set_cons_zero, List.set_cons_succ, List.length_cons, List.length_nil, List.replicate_succ, List.replicate_zero, Option.bind_some, Bool.true_xor, Bool.false_xor, Bool.xor_false, Bool.not_true, Bool.not_false, if_true, if_false, Bool.false_eq_true, wipeE]
    have y0 : y = 0 := by
      rcases hy with ⟨z, _⟩ | ⟨_, h1, h2⟩
      · simp at z
      · simp only [List.length_nil, Nat.pow_zero] at h2
        rcases Nat.eq_zero_or_pos y with h3 | h3
        · exact h3
        · have := Nat.mul_pos (show 0 < x by omega) h3
          omega
    subst y0
    rw [Nat.gcd_zero_right] at hg
    subst hg
    exact ret_same wf trivial h
  · rintro d l env M' E' ⟨rfl, x, y, t, rfl, hg, hy⟩ hnx hct hrt hbk
    simp only [wSeq, wAsg, wCall, wCons, wNil, wVar, wC, wBin, wRet, wIfS, wTst, wGn, wPar, wPar3, wTup, wNeg, wCB, wNext, wNotT, wAndT, wOrT, wTru, wIf, wDrop, oAdd, oSub, oMul, oDiv, oMod, oPow, oI, oI0, oIB, oLt, oLe, oGt, oGe, oAt, oIx, oEq, oNe, oEqK, cAbs, cInt, cLen, wBrk, wCnt, wIsi, wAndV, wOrV, wNotV, D.ty, Ty.sub, D.truth, oIsK, D.isN, wRetN, wGsub, wGet2, D.key, wGcons, wGnil, wGtup, wTupL, wNew, wLst, wDNew, wYes, wIterT, wIter, wRg1, wRg2, wEnum, wFor, wLc, wDc, wCat, wKeys, wPop, wReverse, wAppend, wEmp, wDictP, wSortI, wSortD, wLrg, wCallK, start3, List.map_cons, List.map_nil, List.cons_append, List.nil_append, List.getElem?_cons_zero, List.getElem?_cons_succ, List.set_cons_zero, List.set_cons_succ, List.length_cons, List.length_nil, List.replicate_succ, List.replicate_zero, Option.bind_some, Bool.true_xor, Bool.false_xor, Bool.xor_false, Bool.not_true, Bool.not_false, if_true, if_false, Bool.false_eq_true, wipeE, decide_eq_true_eq]
    by_cases h0 : y = 0
    · subst h0
      rw [if_pos (show ((0 : Nat) : Int) = 0 from rfl)]
      refine hbk _ _ ?_
      simp only [wSeq, wAsg, wCall, wCons, wNil, wVar, wC, wBin, wRet, wIfS, wTst, wGn, wPar, wPar3, wTup, wNeg, wCB, wNext, wNotT, wAndT, wOrT, wTru, wIf, wDrop, oAdd, oSub, oMul, oDiv, oMod, oPow, oI, oI0, oIB, oLt, oLe, oGt, oGe, oAt, oIx, oEq, oNe, oEqK, cAbs, cInt, cLen, wBrk, wCnt, wIsi, wAndV, wOrV, wNotV, D.ty, Ty.sub, D.truth, oIsK, D.isN, wRetN, wGsub, wGet2, D.key, wGcons, wGnil, wGtup, wTupL, wNew, wLst, wDNew, wYes, wIterT, wIter, wRg1, wRg2, wEnum, wFor, wLc, wDc, wCat, wKeys, wPop, wReverse, wAppend, wEmp, wDictP, wSortI, wSortD, wLrg, wCallK, start3, List.map_cons, List.map_nil, List.cons_append, List.nil_append, List.getElem?_cons_zero, List.getElem?_cons_succ, List.set_cons_zero, List.set_cons_succ, List.length_cons, List.length_nil, List.replicate_succ, List.replicate_zero, Option.bind_some, Bool.true_xor, Bool.false_xor, Bool.xor_false, Bool.not_true, Bool.not_false, if_true, if_false, Bool.false_eq_true, wipeE]
      rw [Nat.gcd_zero_right] at hg
      subst hg
      exact ret_same wf trivial h
    · rw [if_neg (by omega)]
      refine ⟨by omega, hnx _ _ ⟨rfl, y, x % y, _, by rw [Int.fmod_eq_emod_of_nonneg _ (by omega)]; rfl, ?_, .inr ?_⟩⟩
      · rw [← hg, Nat.gcd_comm x y, Nat.gcd_rec y x]
        exact Nat.gcd_comm _ _
      · have hm := Nat.mod_lt x (Nat.pos_of_ne_zero h0)
        rcases hy with ⟨hl, hy⟩ | ⟨hl, h1, h2⟩
        · simp only [List.length_cons] at hl
          refine ⟨by omega, hm, ?_⟩
          have e : 120 ≤ l.length := by omega
          have h3 : 2 ^ 120 ≤ 2 ^ l.length := Nat.pow_le_pow_right (by decide) e
          have h4 : y * (x % y) < 2 ^ 60 * 2 ^ 60 := Nat.mul_lt_mul'' hy (by omega)
          have h5 : 2 ^ 60 * 2 ^ 60 = 2 ^ 120 := (Nat.pow_add 2 60 60).symm
          exact Nat.lt_of_lt_of_le (h5 ▸ h4) h3
        · simp only [List.length_cons] at hl h2
          refine ⟨by omega, hm, ?_⟩
          have hd := Nat.div_add_mod x y
          have hq : 1 ≤ x / y := (Nat.le_div_iff_mul_le (Nat.pos_of_ne_zero h0)).mpr (by omega)
          have h4 : y + x % y ≤ x := by
            have := Nat.mul_le_mul_left y hq
            omega
          have h5 : 2 * (x % y) ≤ x := by omega
          have h6 : y * (2 * (x % y)) ≤ y * x := Nat.mul_le_mul_left y h5
          rw [Nat.pow_succ] at h2
          have h7 : y * (2 * (x % y)) = 2 * (y * (x % y)) := by
            rw [Nat.mul_left_comm]
          have h8 : y * x = x * y := Nat.mul_comm _ _
          omega
theorem P__law_gcd : ∀ ds M R, wfM M.length M → S__law_gcd ds M R → W__law_gcd (ends3 M.length R) (start3 N__law_gcd ds) M := gcd_core 2000 rfl
theorem P__law_fr : ∀ ds M R, wfM M.length M → S_lowest ds M R → W__law_fr S__law_gcd (ends3 M.length R) (start3 N__law_fr ds) M := by
  rintro _ M R wf ⟨a, b, rfl, hb, hb2, h⟩
  simp only [W__law_fr, N__law_fr, wSeq, wAsg, wCall, wCons, wNil, wVar, wC, wBin, wRet, wIfS, wTst, wGn, wPar, wPar3, wTup, wNeg, wCB, wNext, wNotT, wAndT, wOrT, wTru, wIf, wDrop, oAdd, oSub, oMul, oDiv, oMod, oPow, oI, oI0, oIB, oLt, oLe, oGt, oGe, oAt, oIx, oEq, oNe, oEqK, cAbs, cInt, cLen, wBrk, wCnt, wIsi, wAndV, wOrV, wNotV, D.ty, Ty.sub, D.truth, oIsK, D.isN, wRetN, wGsub, wGet2, D.key, wGcons, wGnil, wGtup, wTupL, wNew, wLst, wDNew, wYes, wIterT, wIter, wRg1, wRg2, wEnum, wFor, wLc, wDc, wCat, wKeys, wPop, wReverse, wAppend, wEmp, wDictP, wSortI, wSortD, wLrg, wCallK, start3, List.map_cons, List.map_nil, List.cons_append, List.nil_append, List.getElem?_cons_zero, List.getElem?_cons_succ, List.set_cons_zero, List.set_cons_succ, List.length_cons, List.length_nil, List.replicate_succ, List.replicate_zero, Option.bind_some, Bool.true_xor, Bool.false_xor, Bool.xor_false, Bool.not_true, Bool.not_false, if_true, if_false, Bool.false_eq_true, wipeE, decide_eq_true_eq, if_pos hb]
  refine ⟨a, b, rfl, by omega, ?_⟩
  obtain ⟨g1, g2⟩ := gcd_pos (a := a) hb
  refine ⟨divW g1 (by omega), divW g1 (by omega), by decide, ?_⟩
  rw [qD_divInt hb]
  exact ret_same wf ⟨trivial, trivial, trivial⟩ h
theorem P__law_plus : ∀ ds M R, wfM M.length M → S_pm (· + ·) ds M R → W__law_plus S_lowest (ends3 M.length R) (start3 N__law_plus ds) M := by
  rintro _ M R wf ⟨a, b, c, d, rfl, hb, hb2, hd, hd2, ha, hc, h⟩
  simp only [W__law_plus, N__law_plus, wSeq, wAsg, wCall, wCons, wNil, wVar, wC, wBin, wRet, wIfS, wTst, wGn, wPar, wPar3, wTup, wNeg, wCB, wNext, wNotT, wAndT, wOrT, wTru, wIf, wDrop, oAdd, oSub, oMul, oDiv, oMod, oPow, oI, oI0, oIB, oLt, oLe, oGt, oGe, oAt, oIx, oEq, oNe, oEqK, cAbs, cInt, cLen, wBrk, wCnt, wIsi, wAndV, wOrV, wNotV, D.ty, Ty.sub, D.truth, oIsK, D.isN, wRetN, wGsub, wGet2, D.key, wGcons, wGnil, wGtup, wTupL, wNew, wLst, wDNew, wYes, wIterT, wIter, wRg1, wRg2, wEnum, wFor, wLc, wDc, wCat, wKeys, wPop, wReverse, wAppend, wEmp, wDictP, wSortI, wSortD, wLrg, wCallK, start3, List.map_cons, List.map_nil, List.cons_append, List.nil_append, List.getElem?_cons_zero, List.getElem?_cons_succ, List.set_cons_zero, List.set_cons_succ, List.length_cons, List.length_nil, List.replicate_succ, List.replicate_zero, Option.bind_some, Bool.true_xor, Bool.false_xor, Bool.xor_false, Bool.not_true, Bool.not_false, if_true, if_false, Bool.false_eq_true, wipeE, at0, at1]
  refine ⟨mulW (by omega) (by omega), mulW (by omega) (by omega), mulW (by omega) (by omega), _, _, rfl, Int.mul_pos hb hd, ?_, ?_⟩
  · have : b * d < 2 ^ 30 * 2 ^ 30 := Int.mul_lt_mul hb2 (by omega) hd (by omega)
    exact this
  · rw [← Rat.divInt_add_divInt _ _ (by omega) (by omega)]
    exact ret_same wf ⟨trivial, trivial, trivial⟩ h
end K75
set_option Elab.async false
set_option linter.all false
set_option maxRecDepth 100000
set_option maxHeartbeats 400000
namespace K75
open PySem PySem.Spec PyProof.Rows L2 Gx R3

/-! ### the bag: things 0 (great), 1 (cells), 2 (the bag itself) -/
structure Bag where
  h : Int
  t : Int
  great : List Int
  cells : List Int
def bagM (B : Bag) : Mem := [.lst (B.great.map .int), .lst (B.cells.map .int), .lst [.int B.h, .int B.t, .loc 0, .loc 1]]
structure Bag.ok (B : Bag) (T : Nat) : Prop where
  h0 : 0 ≤ B.h
  t0 : 0 ≤ B.t
  tT : B.t ≤ T
  gr : ∀ x ∈ B.great, 0 ≤ x
  ne : B.cells ≠ []
  ce : ∀ x ∈ B.cells, 0 ≤ x ∧ x < 2 ^ 31
theorem bag_wf {B : Bag} {rest : Mem} (hw : wfM (bagM B ++ rest).length (bagM B ++ rest)) (B' : Bag) : wfM (bagM B' ++ rest).length (bagM B' ++ rest) := by
  have hl : (bagM B' ++ rest).length = (bagM B ++ rest).length := by simp [bagM]
  rw [hl]
  have hn : 3 ≤ (bagM B ++ rest).length := by simp [bagM]
  have wfi : ∀ (l : List Int) (n : Nat), D.wfs n (l.map D.int) := fun l n => by
    induction l with
    | nil => exact trivial
    | cons x r ih => exact ⟨trivial, ih⟩
  intro ob hob
  rcases List.mem_append.mp hob with h | h
  · simp only [bagM, List.mem_cons, List.not_mem_nil, or_false] at h
    rcases h with rfl | rfl | rfl
    · exact wfi _ _
    · exact wfi _ _
    · exact ⟨trivial, trivial, show 0 < _ by omega, show 1 < _ by omega, trivial⟩
  · exact hw ob (List.mem_append_right _ h)
def S_draw : SP3 := fun ds M R => ∃ (B : Bag) (T : Nat) (many : Int) (rest : Mem), ds = [.loc 2, .int many] ∧ M = bagM B ++ rest ∧ B.ok T ∧ T < 2 ^ 64 ∧ 0 < many ∧ many < 2 ^ 190 ∧
  ∀ (B' : Bag) (d : Int), B'.ok (T + 1) → 0 ≤ d → d < many → R (.int d) (bagM B' ++ rest)
theorem ret_all {M' : Mem} {N : Nat} {d : D} {R : D → Mem → Prop} (hl : M'.length = N) (hw : wfM M'.length M') (hd : d.nl) (h : R d M') : (ends3 N R).rt d M' := by
  rw [← hl]
  exact ret_same hw hd h
theorem atI_nat' {α : Type} {xs : List α} {i : Int} (h0 : 0 ≤ i) (h : i < xs.length) : ∃ x, atI xs i = some x ∧ x ∈ xs := by
  have hj : i.toNat < xs.length := by omega
  refine ⟨xs[i.toNat], ?_, List.getElem_mem hj⟩
  unfold atI ixN
  rw [if_pos h0, if_pos h]
  exact List.getElem?_eq_getElem hj
def draw_tail : WS := (wSeq (wIfS (wTst (wBin oGt (wBin oAt (wVar 0) (wC (.int 0))) (wC (.int 0))))
  (wSeq (wAsg (wBin oMod (wCB cInt (wCons (wBin oAt (wVar 0) (wC (.int 0))) wNil)) (wVar 1)) (wGn 4))
  (wSeq (wAsg (wBin oDiv (wBin oAt (wVar 0) (wC (.int 0))) (wVar 1)) (wGsub (wVar 0) (wC (.int 0))))
  (wRet (wVar 4))))
  wNext)
  (wSeq (wAsg (wBin oAt (wBin oAt (wVar 0) (wC (.int 3))) (wBin oMod (wCB cInt (wCons (wBin oAt (wVar 0) (wC (.int 1))) wNil)) (wCB cLen (wCons (wBin oAt (wVar 0) (wC (.int 3))) wNil)))) (wGn 2))
  (wSeq (wAsg (wBin oMod (wCB cInt (wCons (wBin oAdd (wBin oAdd (wBin oMul (wVar 2) (wC (.int 48271))) (wBin oMul (wBin oAt (wVar 0) (wC (.int 1))) (wC (.int 69621)))) (wC (.int 1))) wNil)) (wC (.int 2147483647))) (wGn 3))
  (wRet (wBin oMod (wBin oDiv (wBin oMod (wCB cInt (wCons (wBin oAdd (wBin oAdd (wBin oMul (wVar 3) (wVar 3)) (wBin oMul (wVar 3) (wC (.int 16807)))) (wBin oMul (wBin oAt (wVar 0) (wC (.int 1))) (wC (.int 40014)))) wNil)) (wC (.int 2147483629))) (wC (.int 32))) (wVar 1))))))
theorem P__law_draw : ∀ ds M R, wfM M.length M → S_draw ds M R → W__law_draw (ends3 M.length R) (start3 N__law_draw ds) M := by
  rintro _ _ R wf ⟨B, T, many, rest, rfl, rfl, ok, hT, hm, hm2, h⟩
  obtain ⟨hh, t, great, cells⟩ := B
  have a0 : ∀ x y z w : D, atI [x, y, z, w] 0 = some x := fun _ _ _ _ => rfl
  have a1 : ∀ x y z w : D, atI [x, y, z, w] 1 = some y := fun _ _ _ _ => rfl
  have a2 : ∀ x y z w : D, atI [x, y, z, w] 2 = some z := fun _ _ _ _ => rfl
  have a3 : ∀ x y z w : D, atI [x, y, z, w] 3 = some w := fun _ _ _ _ => rfl
  have i0 : ixN 4 0 = some 0 := rfl
  have i1 : ixN 4 1 = some 1 := rfl
  have t0 := ok.t0
  have tT := ok.tT
  simp only at t0 tT
  have hN : (bagM ⟨hh, t, great, cells⟩ ++ rest).length = rest.length + 3 := by simp [bagM]
  have wf' := fun B' => bag_wf wf B'
  clear wf
  rw [hN]
  clear hN
  -- what follows the two first statements, from any bag
  have tail : ∀ (hh : Int) (great : List Int), 0 ≤ hh → (∀ x ∈ great, 0 ≤ x) → ∀ c m dg : Option D,
      draw_tail
        (ends3 (rest.length + 3) R) [some (.loc 2), some (.int many), c, m, dg] (bagM ⟨hh, t + 1, great, cells⟩ ++ rest) := by
    intro hh great h0 hg c m dg
    simp only [draw_tail, wSeq, wAsg, wCall, wCons, wNil, wVar, wC, wBin, wRet, wIfS, wTst, wGn, wPar, wPar3, wTup, wNeg, wCB, wNext, wNotT, wAndT, wOrT, wTru, wIf, wDrop, oAdd, oSub, oMul, oDiv, oMod, oPow, oI, oI0, oIB, oLt, oLe, oGt, oGe, oAt, oIx, oEq, oNe, oEqK, cAbs, cInt, cLen, wBrk, wCnt, wIsi, wAndV, wOrV, wNotV, D.ty, Ty.sub, D.truth, oIsK, D.isN, wRetN, wGsub, wGet2, D.key, wGcons, wGnil, wGtup, wTupL, wNew, wLst, wDNew, wYes, wIterT, wIter, wRg1, wRg2, wEnum, wFor, wLc, wDc, wCat, wKeys, wPop, wReverse, wAppend, wEmp, wDictP, wSortI, wSortD, wLrg, wCallK, start3, List.map_cons, List.map_nil, List.cons_append, List.nil_append, List.getElem?_cons_zero, List.getElem?_cons_succ, List.set_cons_zero, List.set_cons_succ, List.length_cons, List.length_nil, List.replicate_succ, List.replicate_zero, Option.bind_some, Bool.true_xor, Bool.false_xor, Bool.xor_false, Bool.not_true, Bool.not_false, if_true, if_false, Bool.false_eq_true, wipeE, bagM, tblAt, Ob.tbl, a0, a1, a2, a3, i0, i1, decide_eq_true_eq]
    by_cases hp : 0 < hh
    · rw [if_pos hp]
      refine ⟨by omega, divW hm (by omega), ?_⟩
      refine ret_all (M' := bagM ⟨hh / many, t + 1, great, cells⟩ ++ rest) (by simp [bagM]) (wf' ⟨hh / many, t + 1, great, cells⟩) (d := .int _) trivial (h ⟨hh / many, t + 1, great, cells⟩ _ ⟨Int.ediv_nonneg h0 (by omega), by simp only; omega, by simp only; omega, hg, ok.ne, ok.ce⟩ ?_ ?_)
      · rw [Int.fmod_eq_emod_of_nonneg _ (by omega)]
        exact Int.emod_nonneg _ (by omega)
      · rw [Int.fmod_eq_emod_of_nonneg _ (by omega)]
        exact Int.emod_lt_of_pos _ hm
    · rw [if_neg hp]
      have hc : 0 < cells.length := List.length_pos_iff.mpr ok.ne
      have hl : ((cells.map D.int).length : Int) = (cells.length : Int) := by simp
      have hne : ((cells.map D.int).length : Int) ≠ 0 := by rw [hl]; omega
      refine ⟨hne, ?_⟩
      have e1 : (t + 1).fmod ((cells.map D.int).length : Int) = (t + 1) % (cells.length : Int) := by
        rw [hl, Int.fmod_eq_emod_of_nonneg _ (by omega)]
      rw [e1]
      have g0 : 0 ≤ (t + 1) % (cells.length : Int) := Int.emod_nonneg _ (by omega)
      have g1 : (t + 1) % (cells.length : Int) < (cells.length : Int) := Int.emod_lt_of_pos _ (by omega)
      obtain ⟨x, hx, hxm⟩ := atI_nat' (xs := cells.map D.int) g0 (by rw [hl]; exact g1)
      obtain ⟨cv, hcv, rfl⟩ := List.mem_map.mp hxm
      obtain ⟨cv0, cv1⟩ := ok.ce cv hcv
      rw [hx]
      simp only [wSeq, wAsg, wCall, wCons, wNil, wVar, wC, wBin, wRet, wIfS, wTst, wGn, wPar, wPar3, wTup, wNeg, wCB, wNext, wNotT, wAndT, wOrT, wTru, wIf, wDrop, oAdd, oSub, oMul, oDiv, oMod, oPow, oI, oI0, oIB, oLt, oLe, oGt, oGe, oAt, oIx, oEq, oNe, oEqK, cAbs, cInt, cLen, wBrk, wCnt, wIsi, wAndV, wOrV, wNotV, D.ty, Ty.sub, D.truth, oIsK, D.isN, wRetN, wGsub, wGet2, D.key, wGcons, wGnil, wGtup, wTupL, wNew, wLst, wDNew, wYes, wIterT, wIter, wRg1, wRg2, wEnum, wFor, wLc, wDc, wCat, wKeys, wPop, wReverse, wAppend, wEmp, wDictP, wSortI, wSortD, wLrg, wCallK, start3, List.map_cons, List.map_nil, List.cons_append, List.nil_append, List.getElem?_cons_zero, List.getElem?_cons_succ, List.set_cons_zero, List.set_cons_succ, List.length_cons, List.length_nil, List.replicate_succ, List.replicate_zero, Option.bind_some, Bool.true_xor, Bool.false_xor, Bool.xor_false, Bool.not_true, Bool.not_false, if_true, if_false, Bool.false_eq_true, wipeE, a1]
      refine ⟨mulW (by omega) (by decide), mulW (by omega) (by decide), by decide, ?_⟩
      generalize hmx : Int.fmod _ 2147483647 = mx
      have mx0 : 0 ≤ mx := by rw [← hmx, Int.fmod_eq_emod_of_nonneg _ (by decide)]; exact Int.emod_nonneg _ (by decide)
      have mx1 : mx < 2147483647 := by rw [← hmx, Int.fmod_eq_emod_of_nonneg _ (by decide)]; exact Int.emod_lt_of_pos _ (by decide)
      refine ⟨mulW (by omega) (by omega), mulW (by omega) (by decide), mulW (by omega) (by decide), by decide, divW (by decide) (by decide), by omega, ?_⟩
      refine ret_all (M' := bagM ⟨hh, t + 1, great, cells⟩ ++ rest) (by simp [bagM]) (wf' ⟨hh, t + 1, great, cells⟩) (d := .int _) trivial (h ⟨hh, t + 1, great, cells⟩ _ ⟨h0, by simp only; omega, by simp only; omega, hg, ok.ne, ok.ce⟩ ?_ ?_)
      · rw [Int.fmod_eq_emod_of_nonneg _ (by omega)]
        exact Int.emod_nonneg _ (by omega)
      · rw [Int.fmod_eq_emod_of_nonneg _ (by omega)]
        exact Int.emod_lt_of_pos _ hm
  show (wSeq (wAsg (wBin oAdd (wBin oAt (wVar 0) (wC (.int 1))) (wC (.int 1))) (wGsub (wVar 0) (wC (.int 1))))
  (wSeq (wIfS (wAndT (wTst (wBin oEq (wBin oAt (wVar 0) (wC (.int 0))) (wC (.int 0)))) (wTst (wBin oGt (wCB cLen (wCons (wBin oAt (wVar 0) (wC (.int 2))) wNil)) (wC (.int 0)))))
  (wAsg (wPop (wBin oAt (wVar 0) (wC (.int 2)))) (wGsub (wVar 0) (wC (.int 0))))
  wNext)
  draw_tail)) _ _ _
  simp only [N__law_draw, wSeq, wAsg, wCall, wCons, wNil, wVar, wC, wBin, wRet, wIfS, wTst, wGn, wPar, wPar3, wTup, wNeg, wCB, wNext, wNotT, wAndT, wOrT, wTru, wIf, wDrop, oAdd, oSub, oMul, oDiv, oMod, oPow, oI, oI0, oIB, oLt, oLe, oGt, oGe, oAt, oIx, oEq, oNe, oEqK, cAbs, cInt, cLen, wBrk, wCnt, wIsi, wAndV, wOrV, wNotV, D.ty, Ty.sub, D.truth, oIsK, D.isN, wRetN, wGsub, wGet2, D.key, wGcons, wGnil, wGtup, wTupL, wNew, wLst, wDNew, wYes, wIterT, wIter, wRg1, wRg2, wEnum, wFor, wLc, wDc, wCat, wKeys, wPop, wReverse, wAppend, wEmp, wDictP, wSortI, wSortD, wLrg, wCallK, start3, List.map_cons, List.map_nil, List.cons_append, List.nil_append, List.getElem?_cons_zero, List.getElem?_cons_succ, List.set_cons_zero, List.set_cons_succ, List.length_cons, List.length_nil, List.replicate_succ, List.replicate_zero, Option.bind_some, Bool.true_xor, Bool.false_xor, Bool.xor_false, Bool.not_true, Bool.not_false, if_true, if_false, Bool.false_eq_true, wipeE, bagM, tblAt, Ob.tbl, a0, a1, a2, a3, i0, i1, decide_eq_true_eq]
  by_cases hz : hh = 0
  · rw [if_pos hz]
    by_cases hg : 0 < great.length
    · have hg' : (0 : Int) < ((great.map D.int).length : Int) := by rw [List.length_map]; omega
      rw [if_pos hg']
      have hlast : (great.map D.int).getLast? = some (.int (great.getLast (List.ne_nil_of_length_pos hg))) := by
        rw [List.getLast?_map, List.getLast?_eq_getLast (List.ne_nil_of_length_pos hg)]
        rfl
      simp only [Ob.seq, hlast, wSeq, wAsg, wCall, wCons, wNil, wVar, wC, wBin, wRet, wIfS, wTst, wGn, wPar, wPar3, wTup, wNeg, wCB, wNext, wNotT, wAndT, wOrT, wTru, wIf, wDrop, oAdd, oSub, oMul, oDiv, oMod, oPow, oI, oI0, oIB, oLt, oLe, oGt, oGe, oAt, oIx, oEq, oNe, oEqK, cAbs, cInt, cLen, wBrk, wCnt, wIsi, wAndV, wOrV, wNotV, D.ty, Ty.sub, D.truth, oIsK, D.isN, wRetN, wGsub, wGet2, D.key, wGcons, wGnil, wGtup, wTupL, wNew, wLst, wDNew, wYes, wIterT, wIter, wRg1, wRg2, wEnum, wFor, wLc, wDc, wCat, wKeys, wPop, wReverse, wAppend, wEmp, wDictP, wSortI, wSortD, wLrg, wCallK, start3, List.map_cons, List.map_nil, List.cons_append, List.nil_append, List.getElem?_cons_zero, List.getElem?_cons_succ, List.set_cons_zero, List.set_cons_succ, List.length_cons, List.length_nil, List.replicate_succ, List.replicate_zero, Option.bind_some, Bool.true_xor, Bool.false_xor, Bool.xor_false, Bool.not_true, Bool.not_false, if_true, if_false, Bool.false_eq_true, wipeE, i0]
      rw [← List.map_dropLast]
      exact tail _ _ (ok.gr _ (List.getLast_mem _)) (fun x hx => ok.gr x (List.dropLast_subset _ hx)) none none none
    · have hg' : ¬ (0 : Int) < ((great.map D.int).length : Int) := by rw [List.length_map]; omega
      rw [if_neg hg']
      exact tail hh great ok.h0 ok.gr none none none
  · rw [if_neg hz]
    exact tail hh great ok.h0 ok.gr none none none

/-! ### pick -/
def S_pick : SP3 := fun ds M R => ∃ (B : Bag) (T : Nat) (n : Nat) (l : List D) (rest : Mem), ds = [.loc 2, .loc n] ∧ M = bagM B ++ rest ∧ B.ok T ∧ T < 2 ^ 64 ∧ M[n]? = some (.lst l) ∧ 3 ≤ n ∧ l ≠ [] ∧ l.length < 2 ^ 24 ∧ (∀ d ∈ l, d.wf M.length) ∧
  ∀ (B' : Bag), B'.ok (T + 1) → ∀ d ∈ l, R d (bagM B' ++ rest)
theorem shr_same {n : Nat} {M : Mem} {d : D} (hn : M.length = n) (hw : wfM n M) (hd : d.wf n) : Shr n M d M d := by
  subst hn
  have hl : (List.range M.length).length = M.length := List.length_range
  refine ⟨List.range M.length, List.nodup_range, fun i hi => range_get hi, hl.symm, fun i j ob h1 h2 => ?_, fun j hj => List.mem_range.mp hj, (D.ren_id (fun i hi => range_get hi) d hd).symm, by rw [hl]; exact hd, by rw [hl]; exact hw⟩
  have hi : i < M.length := (List.getElem?_eq_some_iff.mp h2).1
  rw [range_get hi] at h1
  have h1 : i = j := Option.some.inj h1
  subst h1
  rw [h2, Ob.ren_id (fun i hi => range_get hi) ob (hw ob (List.mem_of_getElem? h2))]
theorem bag_get {B B' : Bag} {rest : Mem} {n : Nat} (h : 3 ≤ n) : (bagM B ++ rest)[n]? = (bagM B' ++ rest)[n]? := by
  rw [List.getElem?_append_right (by simpa [bagM] using h), List.getElem?_append_right (by simpa [bagM] using h)]
  rfl
theorem P__law_pick : ∀ ds M R, wfM M.length M → S_pick ds M R → W__law_pick S_draw (ends3 M.length R) (start3 N__law_pick ds) M := by
  rintro _ _ R wf ⟨B, T, n, l, rest, rfl, rfl, ok, hT, hl, hn, hne, hlen, hwf, h⟩
  simp only [W__law_pick, N__law_pick, wSeq, wAsg, wCall, wCons, wNil, wVar, wC, wBin, wRet, wIfS, wTst, wGn, wPar, wPar3, wTup, wNeg, wCB, wNext, wNotT, wAndT, wOrT, wTru, wIf, wDrop, oAdd, oSub, oMul, oDiv, oMod, oPow, oI, oI0, oIB, oLt, oLe, oGt, oGe, oAt, oIx, oEq, oNe, oEqK, cAbs, cInt, cLen, wBrk, wCnt, wIsi, wAndV, wOrV, wNotV, D.ty, Ty.sub, D.truth, oIsK, D.isN, wRetN, wGsub, wGet2, D.key, wGcons, wGnil, wGtup, wTupL, wNew, wLst, wDNew, wYes, wIterT, wIter, wRg1, wRg2, wEnum, wFor, wLc, wDc, wCat, wKeys, wPop, wReverse, wAppend, wEmp, wDictP, wSortI, wSortD, wLrg, wCallK, start3, List.map_cons, List.map_nil, List.cons_append, List.nil_append, List.getElem?_cons_zero, List.getElem?_cons_succ, List.set_cons_zero, List.set_cons_succ, List.length_cons, List.length_nil, List.replicate_succ, List.replicate_zero, Option.bind_some, Bool.true_xor, Bool.false_xor, Bool.xor_false, Bool.not_true, Bool.not_false, if_true, if_false, Bool.false_eq_true, wipeE, hl]
  refine ⟨B, T, l.length, rest, rfl, rfl, ok, hT, by have := List.length_pos_iff.mpr hne; omega, by omega, fun B' d ok' h0 h1 => ?_⟩
  have hl' : (bagM B' ++ rest)[n]? = some (.lst l) := (bag_get hn).trans hl
  obtain ⟨x, hx, hxm⟩ := atI_nat' (xs := l) h0 h1
  simp only [wSeq, wAsg, wCall, wCons, wNil, wVar, wC, wBin, wRet, wIfS, wTst, wGn, wPar, wPar3, wTup, wNeg, wCB, wNext, wNotT, wAndT, wOrT, wTru, wIf, wDrop, oAdd, oSub, oMul, oDiv, oMod, oPow, oI, oI0, oIB, oLt, oLe, oGt, oGe, oAt, oIx, oEq, oNe, oEqK, cAbs, cInt, cLen, wBrk, wCnt, wIsi, wAndV, wOrV, wNotV, D.ty, Ty.sub, D.truth, oIsK, D.isN, wRetN, wGsub, wGet2, D.key, wGcons, wGnil, wGtup, wTupL, wNew, wLst, wDNew, wYes, wIterT, wIter, wRg1, wRg2, wEnum, wFor, wLc, wDc, wCat, wKeys, wPop, wReverse, wAppend, wEmp, wDictP, wSortI, wSortD, wLrg, wCallK, start3, List.map_cons, List.map_nil, List.cons_append, List.nil_append, List.getElem?_cons_zero, List.getElem?_cons_succ, List.set_cons_zero, List.set_cons_succ, List.length_cons, List.length_nil, List.replicate_succ, List.replicate_zero, Option.bind_some, Bool.true_xor, Bool.false_xor, Bool.xor_false, Bool.not_true, Bool.not_false, if_true, if_false, Bool.false_eq_true, wipeE, tblAt, hl', Ob.tbl, hx]
  have e : (bagM B' ++ rest).length = (bagM B ++ rest).length := by simp [bagM]
  refine ⟨x, bagM B' ++ rest, ?_, h B' ok' x hxm⟩
  exact shr_same e (by rw [← e]; exact bag_wf wf B') (hwf x hxm)
end K75
set_option Elab.async false
set_option linter.all false
set_option maxRecDepth 100000
set_option maxHeartbeats 400000
namespace K75
open PySem PySem.Spec PyProof.Rows L2 Gx R3

/-! ### the same data -/
def plD : Nat → D → Prop
  | _, .int _ => True
  | _, .bl _ => True
  | _, .str _ => True
  | _, .non => True
  | n + 1, .tup l => l.length < 2 ^ 24 ∧ ∀ x ∈ l, plD n x
  | _, _ => False
def S_same (n : Nat) : SP3 := fun ds M R => ∃ d : D, ds = [d, d] ∧ plD n d ∧ R (.bl true) M
theorem atI_ge {l : List D} {j : Nat} {d : D} (h : l[j]? = some d) : atI l (j : Int) = some d := by
  have hj := (List.getElem?_eq_some_iff.mp h).1
  unfold atI ixN
  rw [if_pos (by omega), if_pos (by omega)]
  exact h
theorem P__law_same (n : Nat) (S : SP3) (hS : ∀ d M R, n ≠ 0 → plD (n - 1) d → R (.bl true) M → S [d, d] M R) : ∀ ds M R, wfM M.length M → S_same n ds M R → W__law_same S (ends3 M.length R) (start3 N__law_same ds) M := by
  rintro _ M R wf ⟨d, rfl, hp, h⟩
  have hr : (ends3 M.length R).rt (.bl true) M := ret_same wf trivial h
  cases d with
  | non => simp only [W__law_same, N__law_same, wSeq, wAsg, wCall, wCons, wNil, wVar, wC, wBin, wRet, wIfS, wTst, wGn, wPar, wPar3, wTup, wNeg, wCB, wNext, wNotT, wAndT, wOrT, wTru, wIf, wDrop, oAdd, oSub, oMul, oDiv, oMod, oPow, oI, oI0, oIB, oLt, oLe, oGt, oGe, oAt, oIx, oEq, oNe, oEqK, cAbs, cInt, cLen, wBrk, wCnt, wIsi, wAndV, wOrV, wNotV, D.ty, Ty.sub, D.truth, oIsK, D.isN, wRetN, wGsub, wGet2, D.key, wGcons, wGnil, wGtup, wTupL, wNew, wLst, wDNew, wYes, wIterT, wIter, wRg1, wRg2, wEnum, wFor, wLc, wDc, wCat, wKeys, wPop, wReverse, wAppend, wEmp, wDictP, wSortI, wSortD, wLrg, wCallK, start3, List.map_cons, List.map_nil, List.cons_append, List.nil_append, List.getElem?_cons_zero, List.getElem?_cons_succ, List.set_cons_zero, List.set_cons_succ, List.length_cons, List.length_nil, List.replicate_succ, List.replicate_zero, Option.bind_some, Bool.true_xor, Bool.false_xor, Bool.xor_false, Bool.not_true, Bool.not_false, if_true, if_false, Bool.false_eq_true, wipeE]; exact hr
  | int i => simp only [W__law_same, N__law_same, wSeq, wAsg, wCall, wCons, wNil, wVar, wC, wBin, wRet, wIfS, wTst, wGn, wPar, wPar3, wTup, wNeg, wCB, wNext, wNotT, wAndT, wOrT, wTru, wIf, wDrop, oAdd, oSub, oMul, oDiv, oMod, oPow, oI, oI0, oIB, oLt, oLe, oGt, oGe, oAt, oIx, oEq, oNe, oEqK, cAbs, cInt, cLen, wBrk, wCnt, wIsi, wAndV, wOrV, wNotV, D.ty, Ty.sub, D.truth, oIsK, D.isN, wRetN, wGsub, wGet2, D.key, wGcons, wGnil, wGtup, wTupL, wNew, wLst, wDNew, wYes, wIterT, wIter, wRg1, wRg2, wEnum, wFor, wLc, wDc, wCat, wKeys, wPop, wReverse, wAppend, wEmp, wDictP, wSortI, wSortD, wLrg, wCallK, start3, List.map_cons, List.map_nil, List.cons_append, List.nil_append, List.getElem?_cons_zero, List.getElem?_cons_succ, List.set_cons_zero, List.set_cons_succ, List.length_cons, List.length_nil, List.replicate_succ, List.replicate_zero, Option.bind_some, Bool.true_xor, Bool.false_xor, Bool.xor_false, Bool.not_true, Bool.not_false, if_true, if_false, Bool.false_eq_true, wipeE, decide_eq_true_eq]; simpa using hr
  | bl i => simp only [W__law_same, N__law_same, wSeq, wAsg, wCall, wCons, wNil, wVar, wC, wBin, wRet, wIfS, wTst, wGn, wPar, wPar3, wTup, wNeg, wCB, wNext, wNotT, wAndT, wOrT, wTru, wIf, wDrop, oAdd, oSub, oMul, oDiv, oMod, oPow, oI, oI0, oIB, oLt, oLe, oGt, oGe, oAt, oIx, oEq, oNe, oEqK, cAbs, cInt, cLen, wBrk, wCnt, wIsi, wAndV, wOrV, wNotV, D.ty, Ty.sub, D.truth, oIsK, D.isN, wRetN, wGsub, wGet2, D.key, wGcons, wGnil, wGtup, wTupL, wNew, wLst, wDNew, wYes, wIterT, wIter, wRg1, wRg2, wEnum, wFor, wLc, wDc, wCat, wKeys, wPop, wReverse, wAppend, wEmp, wDictP, wSortI, wSortD, wLrg, wCallK, start3, List.map_cons, List.map_nil, List.cons_append, List.nil_append, List.getElem?_cons_zero, List.getElem?_cons_succ, List.set_cons_zero, List.set_cons_succ, List.length_cons, List.length_nil, List.replicate_succ, List.replicate_zero, Option.bind_some, Bool.true_xor, Bool.false_xor, Bool.xor_false, Bool.not_true, Bool.not_false, if_true, if_false, Bool.false_eq_true, wipeE, decide_eq_true_eq]; simpa using hr
  | str i => simp only [W__law_same, N__law_same, wSeq, wAsg, wCall, wCons, wNil, wVar, wC, wBin, wRet, wIfS, wTst, wGn, wPar, wPar3, wTup, wNeg, wCB, wNext, wNotT, wAndT, wOrT, wTru, wIf, wDrop, oAdd, oSub, oMul, oDiv, oMod, oPow, oI, oI0, oIB, oLt, oLe, oGt, oGe, oAt, oIx, oEq, oNe, oEqK, cAbs, cInt, cLen, wBrk, wCnt, wIsi, wAndV, wOrV, wNotV, D.ty, Ty.sub, D.truth, oIsK, D.isN, wRetN, wGsub, wGet2, D.key, wGcons, wGnil, wGtup, wTupL, wNew, wLst, wDNew, wYes, wIterT, wIter, wRg1, wRg2, wEnum, wFor, wLc, wDc, wCat, wKeys, wPop, wReverse, wAppend, wEmp, wDictP, wSortI, wSortD, wLrg, wCallK, start3, List.map_cons, List.map_nil, List.cons_append, List.nil_append, List.getElem?_cons_zero, List.getElem?_cons_succ, List.set_cons_zero, List.set_cons_succ, List.length_cons, List.length_nil, List.replicate_succ, List.replicate_zero, Option.bind_some, Bool.true_xor, Bool.false_xor, Bool.xor_false, Bool.not_true, Bool.not_false, if_true, if_false, Bool.false_eq_true, wipeE, decide_eq_true_eq]; simpa using hr
  | loc i => cases n <;> exact hp.elim
  | rol i => cases n <;> exact hp.elim
  | tup l =>
    cases n with
    | zero => exact hp.elim
    | succ n =>
      obtain ⟨hl, hx⟩ := hp
      simp only [W__law_same, N__law_same, wSeq, wAsg, wCall, wCons, wNil, wVar, wC, wBin, wRet, wIfS, wTst, wGn, wPar, wPar3, wTup, wNeg, wCB, wNext, wNotT, wAndT, wOrT, wTru, wIf, wDrop, oAdd, oSub, oMul, oDiv, oMod, oPow, oI, oI0, oIB, oLt, oLe, oGt, oGe, oAt, oIx, oEq, oNe, oEqK, cAbs, cInt, cLen, wBrk, wCnt, wIsi, wAndV, wOrV, wNotV, D.ty, Ty.sub, D.truth, oIsK, D.isN, wRetN, wGsub, wGet2, D.key, wGcons, wGnil, wGtup, wTupL, wNew, wLst, wDNew, wYes, wIterT, wIter, wRg1, wRg2, wEnum, wFor, wLc, wDc, wCat, wKeys, wPop, wReverse, wAppend, wEmp, wDictP, wSortI, wSortD, wLrg, wCallK, start3, List.map_cons, List.map_nil, List.cons_append, List.nil_append, List.getElem?_cons_zero, List.getElem?_cons_succ, List.set_cons_zero, List.set_cons_succ, List.length_cons, List.length_nil, List.replicate_succ, List.replicate_zero, Option.bind_some, Bool.true_xor, Bool.false_xor, Bool.xor_false, Bool.not_true, Bool.not_false, if_true, if_false, Bool.false_eq_true, wipeE, decide_eq_true_eq, ne_eq, not_true_eq_false, bne_self_eq_false, decide_true, Bool.xor_self]
      refine ⟨⟨by omega, by omega⟩, ?_⟩
      rw [Int.toNat_natCast]
      refine for_inv (fun L env M' => M' = M ∧ (∃ x, env = [some (.tup l), some (.tup l), x]) ∧ ∀ y ∈ L, ∃ j : Nat, y = .int j ∧ j < l.length) (fun _ _ _ _ => trivial) ?_ ?_ _ _ _ ⟨rfl, ⟨_, rfl⟩, fun y hy => ?_⟩
      · rintro env M' ⟨rfl, ⟨x, rfl⟩, _⟩
        simp only [wSeq, wAsg, wCall, wCons, wNil, wVar, wC, wBin, wRet, wIfS, wTst, wGn, wPar, wPar3, wTup, wNeg, wCB, wNext, wNotT, wAndT, wOrT, wTru, wIf, wDrop, oAdd, oSub, oMul, oDiv, oMod, oPow, oI, oI0, oIB, oLt, oLe, oGt, oGe, oAt, oIx, oEq, oNe, oEqK, cAbs, cInt, cLen, wBrk, wCnt, wIsi, wAndV, wOrV, wNotV, D.ty, Ty.sub, D.truth, oIsK, D.isN, wRetN, wGsub, wGet2, D.key, wGcons, wGnil, wGtup, wTupL, wNew, wLst, wDNew, wYes, wIterT, wIter, wRg1, wRg2, wEnum, wFor, wLc, wDc, wCat, wKeys, wPop, wReverse, wAppend, wEmp, wDictP, wSortI, wSortD, wLrg, wCallK, start3, List.map_cons, List.map_nil, List.cons_append, List.nil_append, List.getElem?_cons_zero, List.getElem?_cons_succ, List.set_cons_zero, List.set_cons_succ, List.length_cons, List.length_nil, List.replicate_succ, List.replicate_zero, Option.bind_some, Bool.true_xor, Bool.false_xor, Bool.xor_false, Bool.not_true, Bool.not_false, if_true, if_false, Bool.false_eq_true, wipeE]
        exact hr
      · rintro y L env M' E' ⟨rfl, ⟨x, rfl⟩, hL⟩ hnx hct hrt hbk
        obtain ⟨j, rfl, hj⟩ := hL y List.mem_cons_self
        obtain ⟨z, hz⟩ : ∃ z, l[j]? = some z := ⟨_, List.getElem?_eq_getElem hj⟩
        simp only [wSeq, wAsg, wCall, wCons, wNil, wVar, wC, wBin, wRet, wIfS, wTst, wGn, wPar, wPar3, wTup, wNeg, wCB, wNext, wNotT, wAndT, wOrT, wTru, wIf, wDrop, oAdd, oSub, oMul, oDiv, oMod, oPow, oI, oI0, oIB, oLt, oLe, oGt, oGe, oAt, oIx, oEq, oNe, oEqK, cAbs, cInt, cLen, wBrk, wCnt, wIsi, wAndV, wOrV, wNotV, D.ty, Ty.sub, D.truth, oIsK, D.isN, wRetN, wGsub, wGet2, D.key, wGcons, wGnil, wGtup, wTupL, wNew, wLst, wDNew, wYes, wIterT, wIter, wRg1, wRg2, wEnum, wFor, wLc, wDc, wCat, wKeys, wPop, wReverse, wAppend, wEmp, wDictP, wSortI, wSortD, wLrg, wCallK, start3, List.map_cons, List.map_nil, List.cons_append, List.nil_append, List.getElem?_cons_zero, List.getElem?_cons_succ, List.set_cons_zero, List.set_cons_succ, List.length_cons, List.length_nil, List.replicate_succ, List.replicate_zero, Option.bind_some, Bool.true_xor, Bool.false_xor, Bool.xor_false, Bool.not_true, Bool.not_false, if_true, if_false, Bool.false_eq_true, wipeE, atI_ge hz]
        refine hS z M' _ (by omega) (hx z (List.mem_of_getElem? hz)) ?_
        simp only [wSeq, wAsg, wCall, wCons, wNil, wVar, wC, wBin, wRet, wIfS, wTst, wGn, wPar, wPar3, wTup, wNeg, wCB, wNext, wNotT, wAndT, wOrT, wTru, wIf, wDrop, oAdd, oSub, oMul, oDiv, oMod, oPow, oI, oI0, oIB, oLt, oLe, oGt, oGe, oAt, oIx, oEq, oNe, oEqK, cAbs, cInt, cLen, wBrk, wCnt, wIsi, wAndV, wOrV, wNotV, D.ty, Ty.sub, D.truth, oIsK, D.isN, wRetN, wGsub, wGet2, D.key, wGcons, wGnil, wGtup, wTupL, wNew, wLst, wDNew, wYes, wIterT, wIter, wRg1, wRg2, wEnum, wFor, wLc, wDc, wCat, wKeys, wPop, wReverse, wAppend, wEmp, wDictP, wSortI, wSortD, wLrg, wCallK, start3, List.map_cons, List.map_nil, List.cons_append, List.nil_append, List.getElem?_cons_zero, List.getElem?_cons_succ, List.set_cons_zero, List.set_cons_succ, List.length_cons, List.length_nil, List.replicate_succ, List.replicate_zero, Option.bind_some, Bool.true_xor, Bool.false_xor, Bool.xor_false, Bool.not_true, Bool.not_false, if_true, if_false, Bool.false_eq_true, wipeE]
        exact hnx _ _ ⟨rfl, ⟨_, rfl⟩, fun y hy => hL y (List.mem_cons_of_mem _ hy)⟩
      · unfold rgD at hy
        obtain ⟨j, h1, h2⟩ := List.mem_map.mp hy
        exact ⟨j, by rw [← h2, Int.zero_add], List.mem_range.mp h1⟩
end K75
set_option Elab.async false
set_option linter.all false
set_option maxRecDepth 100000
set_option maxHeartbeats 400000
namespace K75
open PySem PySem.Spec PyProof.Rows L2 Gx R3

/-! ### the bag is made -/
def bagK (k : Nat) (B : Bag) : Mem := [.lst (B.great.map .int), .lst (B.cells.map .int), .lst [.int B.h, .int B.t, .loc k, .loc (k + 1)]]
def S_bag : SP3 := fun ds M R => ∃ sc : List Int, (ds = [.rol (sc.map .int)] ∨ ∃ i, ds = [.loc i] ∧ M[i]? = some (.lst (sc.map .int))) ∧ sc.length ≤ 63 ∧ ∀ B : Bag, B.ok 0 → R (.loc (M.length + 2)) (M ++ bagK M.length B)
theorem line64 : 1000 ≤ sizeLine := by rw [sizeLine_eq]; decide
def isI (f : Int → Option Int) : D → Option D
  | .int i => (f i).map .int
  | _ => none
theorem fm_ints (f : Int → Option Int) : ∀ l : List Int, (l.map D.int).filterMap (isI f) = (l.filterMap f).map D.int
  | [] => rfl
  | x :: r => by
    have e : isI f (.int x) = (f x).map D.int := rfl
    rw [List.map_cons, List.filterMap_cons, List.filterMap_cons, e, fm_ints f r]
    cases f x <;> rfl
def bag_ret : WS := (wRet (wNew (wLst (wCons (wC (.int 0)) (wCons (wC (.int 0)) (wCons (wVar 2) (wCons (wNew (wLc [3] (wIter (wVar 1)) (wGn 3) wYes (wBin oMod (wCB cInt (wCons (wVar 3) wNil)) (wC (.int 2147483647))))) wNil)))))))
def bag_mid : WS := (wSeq (wIfS (wTst (wBin oEq (wBin oMod (wCB cInt (wCons (wBin oAt (wVar 1) (wC (.int 0))) wNil)) (wC (.int 2))) (wC (.int 0))))
  (wSeq (wAsg (wNew (wLc [3] (wIter (wVar 1)) (wGn 3) (wTst (wBin oGe (wVar 3) (wBin oPow (wC (.int 10)) (wC (.int 18))))) (wBin oDiv (wVar 3) (wC (.int 2))))) (wGn 2))
  (wDrop (wReverse (wVar 2))))
  wNext)
  bag_ret)
theorem wfs_ints (n : Nat) : ∀ l : List Int, D.wfs n (l.map D.int)
  | [] => trivial
  | _ :: r => ⟨trivial, wfs_ints n r⟩
theorem rens_ints (ix : List Nat) : ∀ l : List Int, D.rens ix (l.map D.int) = l.map D.int
  | [] => rfl
  | x :: r => by
    rw [List.map_cons]
    unfold D.rens
    rw [rens_ints ix r]
    rfl
/-- some new things are kept: the old ones and ks -/
theorem shr_news {n : Nat} {ks : List Nat} {M' obs : Mem} {d d'' : D} (hn : n ≤ M'.length) (hk : ks.Nodup) (hkn : ∀ k ∈ ks, n ≤ k ∧ k < M'.length) (hl : obs.length = ks.length) (hob : ∀ (i k : Nat) (ob : Ob), ks[i]? = some k → obs[i]? = some ob → M'[k]? = some (ob.ren (List.range n ++ ks)))
    (hw : wfM n (M'.take n)) (ho : ∀ ob ∈ obs, ob.wf (n + ks.length)) (hd : d = d''.ren (List.range n ++ ks)) (hd' : d''.wf (n + ks.length)) : Shr n M' d (M'.take n ++ obs) d'' := by
  have hlr : (List.range n).length = n := List.length_range
  have hi : ∀ i, i < n → (List.range n ++ ks)[i]? = some i := fun i h => by rw [List.getElem?_append_left (by rw [hlr]; exact h)]; exact range_get h
  have hlt : (M'.take n).length = n := by rw [List.length_take]; omega
  have hlen : (List.range n ++ ks).length = n + ks.length := by rw [List.length_append, hlr]
  refine ⟨List.range n ++ ks, List.nodup_append.mpr ⟨List.nodup_range, hk, fun a ha c hc z => ?_⟩, hi, by rw [List.length_append, hlt, hlen, hl], fun i j ob h1 h2 => ?_, fun j hj => ?_, hd, by rw [hlen]; exact hd', fun ob h => ?_⟩
  · have h1 := List.mem_range.mp ha
    have h2 := (hkn c hc).1
    omega
  · by_cases hin : i < n
    · rw [hi i hin] at h1
      have h1 : i = j := Option.some.inj h1
      subst h1
      rw [List.getElem?_append_left (by rw [hlt]; exact hin)] at h2
      have hob' := hw ob (List.mem_of_getElem? h2)
      rw [List.getElem?_take_of_lt hin] at h2
      rw [h2, Ob.ren_id hi ob hob']
    · rw [List.getElem?_append_right (by rw [hlr]; omega), hlr] at h1
      rw [List.getElem?_append_right (by rw [hlt]; omega), hlt] at h2
      exact hob _ _ _ h1 h2
  · rcases List.mem_append.mp hj with h | h
    · have := List.mem_range.mp h
      omega
    · exact (hkn j h).2
  · rw [hlen]
    rcases List.mem_append.mp h with h | h
    · exact Ob.wf_mono (Nat.le_add_right _ _) _ (hw ob h)
    · exact ho ob h
theorem ren_at {n j : Nat} {ks : List Nat} {k : Nat} (h : ks[j]? = some k) : (D.loc (n + j)).ren (List.range n ++ ks) = .loc k := by
  unfold D.ren
  rw [List.getD_eq_getElem?_getD, List.getElem?_append_right (by simp), List.length_range, show n + j - n = j by omega, h]
  rfl
theorem bag_ret_ok {R : D → Mem → Prop} {M0 : Mem} {cells great : List Int} {g : Nat} {G : Mem} {x y : Option D} (wf : wfM M0.length M0) (h0 : (M0 ++ G)[M0.length]? = some (.lst (cells.map .int))) (hg : (M0 ++ G)[g]? = some (.lst (great.map .int))) (h1 : M0.length + 1 ≤ g) (hl : cells.length ≤ 64) (hne : cells ≠ []) (hpos : ∀ c ∈ great, 0 ≤ c) (h : ∀ B : Bag, B.ok 0 → R (.loc (M0.length + 2)) (M0 ++ bagK M0.length B)) :
    bag_ret (ends3 M0.length R) [x, some (.loc M0.length), some (.loc g), y] (M0 ++ G) := by
  have hz := line64
  simp only [bag_ret, wSeq, wAsg, wCall, wCons, wNil, wVar, wC, wBin, wRet, wIfS, wTst, wGn, wPar, wPar3, wTup, wNeg, wCB, wNext, wNotT, wAndT, wOrT, wTru, wIf, wDrop, oAdd, oSub, oMul, oDiv, oMod, oPow, oI, oI0, oIB, oLt, oLe, oGt, oGe, oAt, oIx, oEq, oNe, oEqK, cAbs, cInt, cLen, wBrk, wCnt, wIsi, wAndV, wOrV, wNotV, D.ty, Ty.sub, D.truth, oIsK, D.isN, wRetN, wGsub, wGet2, D.key, wGcons, wGnil, wGtup, wTupL, wNew, wLst, wDNew, wYes, wIterT, wIter, wRg1, wRg2, wEnum, wFor, wLc, wDc, wCat, wKeys, wPop, wReverse, wAppend, wEmp, wDictP, wSortI, wSortD, wLrg, wCallK, start3, List.map_cons, List.map_nil, List.cons_append, List.nil_append, List.getElem?_cons_zero, List.getElem?_cons_succ, List.set_cons_zero, List.set_cons_succ, List.length_cons, List.length_nil, List.replicate_succ, List.replicate_zero, Option.bind_some, Bool.true_xor, Bool.false_xor, Bool.xor_false, Bool.not_true, Bool.not_false, if_true, if_false, Bool.false_eq_true, wipeE, h0]
  refine lc_pure (isI fun i => some (Int.fmod i 2147483647)) h0 _ _ (fun d hd K1 K2 h1 h2 => ?_) (by simp; omega) ?_
  · obtain ⟨i, _, rfl⟩ := List.mem_map.mp hd
    simp only [wSeq, wAsg, wCall, wCons, wNil, wVar, wC, wBin, wRet, wIfS, wTst, wGn, wPar, wPar3, wTup, wNeg, wCB, wNext, wNotT, wAndT, wOrT, wTru, wIf, wDrop, oAdd, oSub, oMul, oDiv, oMod, oPow, oI, oI0, oIB, oLt, oLe, oGt, oGe, oAt, oIx, oEq, oNe, oEqK, cAbs, cInt, cLen, wBrk, wCnt, wIsi, wAndV, wOrV, wNotV, D.ty, Ty.sub, D.truth, oIsK, D.isN, wRetN, wGsub, wGet2, D.key, wGcons, wGnil, wGtup, wTupL, wNew, wLst, wDNew, wYes, wIterT, wIter, wRg1, wRg2, wEnum, wFor, wLc, wDc, wCat, wKeys, wPop, wReverse, wAppend, wEmp, wDictP, wSortI, wSortD, wLrg, wCallK, start3, List.map_cons, List.map_nil, List.cons_append, List.nil_append, List.getElem?_cons_zero, List.getElem?_cons_succ, List.set_cons_zero, List.set_cons_succ, List.length_cons, List.length_nil, List.replicate_succ, List.replicate_zero, Option.bind_some, Bool.true_xor, Bool.false_xor, Bool.xor_false, Bool.not_true, Bool.not_false, if_true, if_false, Bool.false_eq_true, wipeE]
    exact ⟨by decide, h1 _ rfl⟩
  rw [fm_ints, List.nil_append]
  refine ⟨by omega, ?_⟩
  have hgl : g < (M0 ++ G).length := (List.getElem?_eq_some_iff.mp hg).1
  have hML : M0.length ≤ (M0 ++ G).length := by simp
  generalize hMM : M0 ++ G = M at *
  have hpre : (M ++ [Ob.lst ((cells.filterMap fun i => some (Int.fmod i 2147483647)).map .int)] ++ [Ob.lst [.int 0, .int 0, .loc g, .loc M.length]]).take M0.length = M0 := by
    rw [← hMM, List.append_assoc, List.append_assoc]
    exact take_pre
  have hsh := shr_news (n := M0.length) (ks := [g, M.length, M.length + 1]) (M' := M ++ [Ob.lst ((cells.filterMap fun i => some (Int.fmod i 2147483647)).map .int)] ++ [Ob.lst [.int 0, .int 0, .loc g, .loc M.length]]) (obs := bagK M0.length ⟨0, 0, great, cells.filterMap fun i => some (Int.fmod i 2147483647)⟩) (d := .loc (M.length + 1)) (d'' := .loc (M0.length + 2))
    (by simp; omega) (by simp; omega) (fun k hk => by simp only [List.mem_cons, List.not_mem_nil, or_false] at hk; simp; omega) rfl (fun i j ob e1 e2 => ?_) (by rw [hpre]; exact wf) (fun ob hob => ?_) (ren_at (j := 2) rfl).symm (by show _ < _; simp)
  · rw [hpre] at hsh
    have el : (M ++ [Ob.lst ((cells.filterMap fun i => some (Int.fmod i 2147483647)).map D.int)]).length = M.length + 1 := by simp
    rw [el]
    refine ⟨_, _, hsh, h _ ⟨Int.le_refl _, Int.le_refl _, Int.le_refl _, hpos, ?_, ?_⟩⟩
    · cases cells with
      | nil => exact (hne rfl).elim
      | cons c r => simp
    · intro c hc
      obtain ⟨i, _, hi⟩ := List.mem_filterMap.mp hc
      cases hi
      rw [Int.fmod_eq_emod_of_nonneg _ (by decide)]
      have := Int.emod_nonneg i (show (2147483647 : Int) ≠ 0 by decide)
      have := Int.emod_lt_of_pos i (show (0 : Int) < 2147483647 by decide)
      omega
  · match i, e1, e2 with
    | 0, e1, e2 =>
      cases e1
      cases e2
      rw [List.getElem?_append_left (by simp; omega), List.getElem?_append_left hgl, hg]
      exact congrArg (fun z => some (Ob.lst z)) (rens_ints _ _).symm
    | 1, e1, e2 =>
      cases e1
      cases e2
      rw [List.getElem?_append_left (by simp), List.getElem?_append_right (Nat.le_refl _), Nat.sub_self]
      exact congrArg (fun z => some (Ob.lst z)) (rens_ints _ _).symm
    | 2, e1, e2 =>
      cases e1
      cases e2
      rw [List.getElem?_append_right (by simp)]
      simp only [List.length_append, List.length_cons, List.length_nil, Nat.zero_add, Nat.sub_self, List.getElem?_cons_zero]
      have r0 : (D.loc M0.length).ren (List.range M0.length ++ [g, M.length, M.length + 1]) = .loc g := ren_at (j := 0) rfl
      have r1 : (D.loc (M0.length + 1)).ren (List.range M0.length ++ [g, M.length, M.length + 1]) = .loc M.length := ren_at (j := 1) rfl
      show _ = some (Ob.lst [.int 0, .int 0, (D.loc M0.length).ren _, (D.loc (M0.length + 1)).ren _])
      rw [r0, r1]
  · simp only [bagK, List.mem_cons, List.not_mem_nil, or_false] at hob
    rcases hob with rfl | rfl | rfl
    · exact wfs_ints _ _
    · exact wfs_ints _ _
    · exact ⟨trivial, trivial, show _ < _ by simp, show _ < _ by simp, trivial⟩
theorem P__law_bag : ∀ ds M R, wfM M.length M → S_bag ds M R → W__law_bag (ends3 M.length R) (start3 N__law_bag ds) M := by
  rintro ds M0 R wf ⟨sc, hds, hl, h⟩
  have hz := line64
  obtain ⟨d0, rfl⟩ : ∃ d, ds = [d] := by
    rcases hds with h | ⟨i, h, _⟩ <;> exact ⟨_, h⟩
  have hit : ∀ R : Src → Mem → Prop, (∀ ok : Mem → Prop, ok M0 → R ⟨sc.map .int, ok⟩ M0) → wIter (wVar 0) (start3 N__law_bag [d0]) M0 R := fun R hR => by
    rcases hds with e | ⟨i, e, hi⟩
    · cases e
      exact hR _ trivial
    · cases e
      show match M0[i]? with
        | some (.lst l) => R ⟨l, fun M' => M'[i]? = some (.lst l)⟩ M0
        | _ => False
      rw [hi]
      exact hR _ hi
  show (wSeq (wAsg (wNew (wCat (wLc [3] (wIter (wVar 0)) (wGn 3) wYes (wCB cAbs (wCons (wCB cInt (wCons (wVar 3) wNil)) wNil))) (wLst (wCons (wC (.int 7)) wNil)))) (wGn 1))
  (wSeq (wAsg (wNew (wLst wNil)) (wGn 2))
  bag_mid)) _ _ _
  generalize wIter (wVar 0) = I at hit ⊢
  simp only [N__law_bag, wSeq, wAsg, wCall, wCons, wNil, wVar, wC, wBin, wRet, wIfS, wTst, wGn, wPar, wPar3, wTup, wNeg, wCB, wNext, wNotT, wAndT, wOrT, wTru, wIf, wDrop, oAdd, oSub, oMul, oDiv, oMod, oPow, oI, oI0, oIB, oLt, oLe, oGt, oGe, oAt, oIx, oEq, oNe, oEqK, cAbs, cInt, cLen, wBrk, wCnt, wIsi, wAndV, wOrV, wNotV, D.ty, Ty.sub, D.truth, oIsK, D.isN, wRetN, wGsub, wGet2, D.key, wGcons, wGnil, wGtup, wTupL, wNew, wLst, wDNew, wYes, wIterT, wIter, wRg1, wRg2, wEnum, wFor, wLc, wDc, wCat, wKeys, wPop, wReverse, wAppend, wEmp, wDictP, wSortI, wSortD, wLrg, wCallK, start3, List.map_cons, List.map_nil, List.cons_append, List.nil_append, List.getElem?_cons_zero, List.getElem?_cons_succ, List.set_cons_zero, List.set_cons_succ, List.length_cons, List.length_nil, List.replicate_succ, List.replicate_zero, Option.bind_some, Bool.true_xor, Bool.false_xor, Bool.xor_false, Bool.not_true, Bool.not_false, if_true, if_false, Bool.false_eq_true, wipeE] at hit ⊢
  refine hit _ fun ok hok => ?_
  clear hit
  refine lc_pure (isI fun i => some i.natAbs) hok _ _ (fun d hd K1 K2 h1 h2 => ?_) (by simp; omega) ?_
  · obtain ⟨i, _, rfl⟩ := List.mem_map.mp hd
    simp only [wSeq, wAsg, wCall, wCons, wNil, wVar, wC, wBin, wRet, wIfS, wTst, wGn, wPar, wPar3, wTup, wNeg, wCB, wNext, wNotT, wAndT, wOrT, wTru, wIf, wDrop, oAdd, oSub, oMul, oDiv, oMod, oPow, oI, oI0, oIB, oLt, oLe, oGt, oGe, oAt, oIx, oEq, oNe, oEqK, cAbs, cInt, cLen, wBrk, wCnt, wIsi, wAndV, wOrV, wNotV, D.ty, Ty.sub, D.truth, oIsK, D.isN, wRetN, wGsub, wGet2, D.key, wGcons, wGnil, wGtup, wTupL, wNew, wLst, wDNew, wYes, wIterT, wIter, wRg1, wRg2, wEnum, wFor, wLc, wDc, wCat, wKeys, wPop, wReverse, wAppend, wEmp, wDictP, wSortI, wSortD, wLrg, wCallK, start3, List.map_cons, List.map_nil, List.cons_append, List.nil_append, List.getElem?_cons_zero, List.getElem?_cons_succ, List.set_cons_zero, List.set_cons_succ, List.length_cons, List.length_nil, List.replicate_succ, List.replicate_zero, Option.bind_some, Bool.true_xor, Bool.false_xor, Bool.xor_false, Bool.not_true, Bool.not_false, if_true, if_false, Bool.false_eq_true, wipeE]
    have ea : ∀ x : Int, (if x < 0 then -x else x) = (x.natAbs : Int) := fun x => by split <;> omega
    rw [ea]
    exact h1 _ rfl
  rw [fm_ints, List.nil_append]
  obtain ⟨cells, hc⟩ : ∃ cells : List Int, cells = sc.filterMap (fun i => some (i.natAbs : Int)) ++ [7] := ⟨_, rfl⟩
  have hc2 : (sc.filterMap (fun i => some (i.natAbs : Int))).map D.int ++ [D.int 7] = cells.map D.int := by rw [hc, List.map_append]; rfl
  have hcl : cells.length ≤ 64 := by
    rw [hc, List.length_append]
    have := List.length_filterMap_le (fun i : Int => some (i.natAbs : Int)) sc
    simp only [List.length_cons, List.length_nil]
    omega
  have hcn : cells ≠ [] := by rw [hc]; simp
  have hcp : ∀ c ∈ cells, 0 ≤ c := fun c hm => by
    rw [hc] at hm
    rcases List.mem_append.mp hm with hm | hm
    · obtain ⟨i, _, hi⟩ := List.mem_filterMap.mp hm
      cases hi
      omega
    · rw [List.mem_singleton.mp hm]
      decide
  refine ⟨by omega, ?_, by omega, ?_⟩
  · rw [List.length_map]
    have := List.length_filterMap_le (fun i : Int => some (i.natAbs : Int)) sc
    omega
  rw [hc2]
  clear hc hc2
  have l1 : ∀ a, (M0 ++ [a]).length = M0.length + 1 := fun a => by simp
  rw [l1, List.append_assoc]
  show bag_mid (ends3 M0.length R) [some d0, some (.loc M0.length), some (.loc (M0.length + 1)), none] (M0 ++ [.lst (cells.map .int), .lst []])
  obtain ⟨c0, cr, rfl⟩ : ∃ c0 cr, cells = c0 :: cr := by
    cases cells with
    | nil => exact (hcn rfl).elim
    | cons c r => exact ⟨c, r, rfl⟩
  have ea : atI (D.int c0 :: cr.map D.int) 0 = some (.int c0) := by
    unfold atI ixN
    simp
  have g0 : ∀ a G, (M0 ++ a :: G)[M0.length]? = some a := fun a G => by rw [List.getElem?_append_right (Nat.le_refl _), Nat.sub_self]; rfl
  have g2 : ∀ a b c, (M0 ++ [a, b, c])[M0.length + 2]? = some c := fun a b c => by rw [List.getElem?_append_right (by omega), show M0.length + 2 - M0.length = 2 by omega]; rfl
  have s2 : ∀ a b c d, (M0 ++ [a, b, c]).set (M0.length + 2) d = M0 ++ [a, b, d] := fun a b c d => by rw [List.set_append_right _ _ (by omega), show M0.length + 2 - M0.length = 2 by omega]; rfl
  have l2 : ∀ a b, (M0 ++ [a, b]).length = M0.length + 2 := fun a b => by simp
  unfold bag_mid
  generalize hX : bag_ret = X
  simp only [wSeq, wAsg, wCall, wCons, wNil, wVar, wC, wBin, wRet, wIfS, wTst, wGn, wPar, wPar3, wTup, wNeg, wCB, wNext, wNotT, wAndT, wOrT, wTru, wIf, wDrop, oAdd, oSub, oMul, oDiv, oMod, oPow, oI, oI0, oIB, oLt, oLe, oGt, oGe, oAt, oIx, oEq, oNe, oEqK, cAbs, cInt, cLen, wBrk, wCnt, wIsi, wAndV, wOrV, wNotV, D.ty, Ty.sub, D.truth, oIsK, D.isN, wRetN, wGsub, wGet2, D.key, wGcons, wGnil, wGtup, wTupL, wNew, wLst, wDNew, wYes, wIterT, wIter, wRg1, wRg2, wEnum, wFor, wLc, wDc, wCat, wKeys, wPop, wReverse, wAppend, wEmp, wDictP, wSortI, wSortD, wLrg, wCallK, start3, List.map_cons, List.map_nil, List.cons_append, List.nil_append, List.getElem?_cons_zero, List.getElem?_cons_succ, List.set_cons_zero, List.set_cons_succ, List.length_cons, List.length_nil, List.replicate_succ, List.replicate_zero, Option.bind_some, Bool.true_xor, Bool.false_xor, Bool.xor_false, Bool.not_true, Bool.not_false, if_true, if_false, Bool.false_eq_true, wipeE, tblAt, Ob.tbl, g0, ea, decide_eq_true_eq]
  refine ⟨by decide, ?_⟩
  by_cases hm : Int.fmod c0 2 = 0
  · rw [if_pos hm]
    refine lc_pure (isI fun i => if 10 ^ 18 ≤ i then some (i / 2) else none) (g0 _ _) _ _ (fun d hd K1 K2 h1 h2 => ?_) ?_ ?_
    · obtain ⟨i, _, rfl⟩ := List.mem_map.mp (show d ∈ (c0 :: cr).map D.int from hd)
      simp only [wSeq, wAsg, wCall, wCons, wNil, wVar, wC, wBin, wRet, wIfS, wTst, wGn, wPar, wPar3, wTup, wNeg, wCB, wNext, wNotT, wAndT, wOrT, wTru, wIf, wDrop, oAdd, oSub, oMul, oDiv, oMod, oPow, oI, oI0, oIB, oLt, oLe, oGt, oGe, oAt, oIx, oEq, oNe, oEqK, cAbs, cInt, cLen, wBrk, wCnt, wIsi, wAndV, wOrV, wNotV, D.ty, Ty.sub, D.truth, oIsK, D.isN, wRetN, wGsub, wGet2, D.key, wGcons, wGnil, wGtup, wTupL, wNew, wLst, wDNew, wYes, wIterT, wIter, wRg1, wRg2, wEnum, wFor, wLc, wDc, wCat, wKeys, wPop, wReverse, wAppend, wEmp, wDictP, wSortI, wSortD, wLrg, wCallK, start3, List.map_cons, List.map_nil, List.cons_append, List.nil_append, List.getElem?_cons_zero, List.getElem?_cons_succ, List.set_cons_zero, List.set_cons_succ, List.length_cons, List.length_nil, List.replicate_succ, List.replicate_zero, Option.bind_some, Bool.true_xor, Bool.false_xor, Bool.xor_false, Bool.not_true, Bool.not_false, if_true, if_false, Bool.false_eq_true, wipeE, decide_eq_true_eq]
      refine ⟨⟨by decide, by decide, by decide⟩, ?_⟩
      have e18 : (10 : Int) ^ Int.toNat 18 = 10 ^ 18 := rfl
      rw [e18]
      by_cases hi : (10 : Int) ^ 18 ≤ i
      · rw [if_pos hi]
        refine ⟨divW (by decide) (by decide), h1 _ ?_⟩
        show Option.map D.int (if (10 : Int) ^ 18 ≤ i then some (i / 2) else none) = some (D.int (i / 2))
        rw [if_pos hi]
        rfl
      · rw [if_neg hi]
        refine h2 ?_
        show Option.map D.int (if (10 : Int) ^ 18 ≤ i then some (i / 2) else none) = none
        rw [if_neg hi]
        rfl
    · have : (c0 :: cr).length ≤ 64 := hcl
      simp only [List.length_nil, List.length_map, List.length_cons] at this ⊢
      omega
    rw [show D.int c0 :: cr.map D.int = (c0 :: cr).map D.int from rfl, fm_ints, List.nil_append]
    simp only [List.append_assoc, l2, wSeq, wAsg, wCall, wCons, wNil, wVar, wC, wBin, wRet, wIfS, wTst, wGn, wPar, wPar3, wTup, wNeg, wCB, wNext, wNotT, wAndT, wOrT, wTru, wIf, wDrop, oAdd, oSub, oMul, oDiv, oMod, oPow, oI, oI0, oIB, oLt, oLe, oGt, oGe, oAt, oIx, oEq, oNe, oEqK, cAbs, cInt, cLen, wBrk, wCnt, wIsi, wAndV, wOrV, wNotV, D.ty, Ty.sub, D.truth, oIsK, D.isN, wRetN, wGsub, wGet2, D.key, wGcons, wGnil, wGtup, wTupL, wNew, wLst, wDNew, wYes, wIterT, wIter, wRg1, wRg2, wEnum, wFor, wLc, wDc, wCat, wKeys, wPop, wReverse, wAppend, wEmp, wDictP, wSortI, wSortD, wLrg, wCallK, start3, List.map_cons, List.map_nil, List.cons_append, List.nil_append, List.getElem?_cons_zero, List.getElem?_cons_succ, List.set_cons_zero, List.set_cons_succ, List.length_cons, List.length_nil, List.replicate_succ, List.replicate_zero, Option.bind_some, Bool.true_xor, Bool.false_xor, Bool.xor_false, Bool.not_true, Bool.not_false, if_true, if_false, Bool.false_eq_true, wipeE, g2, s2, Ob.seq]
    rw [← List.map_reverse]
    subst hX
    refine bag_ret_ok wf (g0 _ _) (g2 _ _ _) (by omega) hcl hcn (fun c hc => ?_) h
    obtain ⟨i, hi, e⟩ := List.mem_filterMap.mp (List.mem_reverse.mp hc)
    split at e
    · cases e
      exact Int.ediv_nonneg (hcp i hi) (by decide)
    · cases e
  · rw [if_neg hm]
    subst hX
    exact bag_ret_ok (great := []) wf (g0 _ _) (by rw [List.getElem?_append_right (by omega), show M0.length + 1 - M0.length = 1 by omega]; rfl) (Nat.le_refl _) hcl hcn (by simp) h
end K75
set_option Elab.async false
set_option linter.all false
set_option maxRecDepth 100000
set_option maxHeartbeats 400000
namespace K75
open PySem PySem.Spec PyProof.Rows L2 Gx R3

/-! ### dicts by places -/
structure Rep {α : Type} (enc : α → D) (z : α) (f : Int → α) (m : List (Key × D)) : Prop where
  key : ∀ p ∈ m, ∃ i : Int, p.1 = .inl i ∧ p.2 = enc (f i)
  nd : (m.map (·.1)).Nodup
  out : ∀ i : Int, (Sum.inl i : Key) ∉ m.map (·.1) → f i = z
  bd : ∀ i : Int, (Sum.inl i : Key) ∈ m.map (·.1) → -1000 ≤ i ∧ i ≤ 1000
  len : m.length ≤ 1000
theorem valD_mem {κ α : Type} [DecidableEq κ] : ∀ {m : List (κ × α)} {k : κ} {v : α}, valD m k = some v → (k, v) ∈ m
  | [], k, v, h => by cases h
  | (j, x) :: r, k, v, h => by
    unfold valD at h
    rw [List.find?_cons] at h
    by_cases e : j = k
    · rw [decide_eq_true e] at h
      cases h
      subst e
      exact List.mem_cons_self
    · rw [decide_eq_false e] at h
      exact List.mem_cons_of_mem _ (valD_mem h)
theorem valD_none {κ α : Type} [DecidableEq κ] : ∀ {m : List (κ × α)} {k : κ}, valD m k = none → k ∉ m.map (·.1)
  | [], k, h => by simp
  | (j, x) :: r, k, h => by
    unfold valD at h
    rw [List.find?_cons] at h
    by_cases e : j = k
    · rw [decide_eq_true e] at h
      cases h
    · rw [decide_eq_false e] at h
      rw [List.map_cons, List.mem_cons]
      exact fun z => z.elim (fun q => e q.symm) (valD_none h)
section
variable {α : Type} {enc : α → D} {z : α} {f : Int → α} {m : List (Key × D)}
theorem Rep.val (r : Rep enc z f m) (i : Int) : valD m (.inl i) = some (enc (f i)) ∨ (valD m (.inl i) = none ∧ f i = z) := by
  cases h : valD m (.inl i) with
  | none => exact .inr ⟨rfl, r.out i (valD_none h)⟩
  | some v =>
    obtain ⟨j, e1, e2⟩ := r.key _ (valD_mem h)
    cases e1
    exact .inl (congrArg some e2)
theorem Rep.getD (r : Rep enc z f m) (i : Int) : (valD m (.inl i)).getD (enc z) = enc (f i) := by
  rcases r.val i with h | ⟨h, e⟩
  · rw [h]; rfl
  · rw [h, e]; rfl
end
/-- f lives between lo and lo + n, and not within -/
def Trim {α : Type} (z : α) (f : Int → α) (lo : Int) (n : Nat) : Prop := (n = 0 ∧ lo = 0 ∧ ∀ p, f p = z) ∨ (1 ≤ n ∧ f lo ≠ z ∧ f (lo + (n : Int) - 1) ≠ z ∧ ∀ p, (p < lo ∨ lo + (n : Int) ≤ p) → f p = z)
theorem Trim.unique {α : Type} {z : α} {f : Int → α} {lo lo' : Int} {n n' : Nat} (a : Trim z f lo n) (b : Trim z f lo' n') : lo = lo' ∧ n = n' := by
  rcases a with ⟨rfl, rfl, a⟩ | ⟨a1, a2, a3, a4⟩
  · rcases b with ⟨rfl, rfl, b⟩ | ⟨b1, b2, b3, b4⟩
    · exact ⟨rfl, rfl⟩
    · exact (b2 (a _)).elim
  · rcases b with ⟨rfl, rfl, b⟩ | ⟨b1, b2, b3, b4⟩
    · exact (a2 (b _)).elim
    · have h1 : ¬ lo < lo' := fun h => a2 (b4 lo (.inl h))
      have h2 : ¬ lo' < lo := fun h => b2 (a4 lo' (.inl h))
      have h3 : ¬ lo' + (n' : Int) ≤ lo + (n : Int) - 1 := fun h => a3 (b4 _ (.inr h))
      have h4 : ¬ lo + (n : Int) ≤ lo' + (n' : Int) - 1 := fun h => b3 (a4 _ (.inr h))
      omega
def rowD {α : Type} (enc : α → D) (f : Int → α) (lo : Int) (n : Nat) : D := .tup [.int lo, .tup ((List.range n).map fun (k : Nat) => enc (f (lo + (k : Int))))]
/-- from the sorted places to Trim -/
theorem trim_sorted {α : Type} {z : α} {f : Int → α} {ns : List Int} (hs : ns.Pairwise (· ≤ ·)) (hm : ∀ i, i ∈ ns ↔ f i ≠ z) : (ns = [] → Trim z f 0 0) ∧ ∀ x r, ns = x :: r → Trim z f x ((ns.getLast?.getD 0) + 1 - x).toNat ∧ x ≤ ns.getLast?.getD 0 := by
  refine ⟨fun e => .inl ⟨rfl, rfl, fun p => ?_⟩, fun x r e => ?_⟩
  · by_cases h : f p = z
    · exact h
    · have := (hm p).mpr h
      rw [e] at this
      cases this
  · subst e
    have hne : (x :: r) ≠ [] := List.cons_ne_nil _ _
    rw [List.getLast?_eq_getLast hne]
    show Trim z f x ((x :: r).getLast hne + 1 - x).toNat ∧ x ≤ (x :: r).getLast hne
    have hl := List.getLast_mem hne
    have hx : x ≤ (x :: r).getLast hne := by
      rcases List.mem_cons.mp hl with h | h
      · rw [h]; exact Int.le_refl _
      · exact List.rel_of_pairwise_cons hs h
    have hmax : ∀ y ∈ x :: r, y ≤ (x :: r).getLast hne := fun y hy => by
      rw [← List.dropLast_concat_getLast hne] at hy hs
      rcases List.mem_append.mp hy with h | h
      · exact (List.pairwise_append.mp hs).2.2 y h _ (List.mem_singleton.mpr rfl)
      · rw [List.mem_singleton.mp h]
        exact Int.le_refl _
    refine ⟨.inr ⟨by omega, (hm x).mp List.mem_cons_self, ?_, fun p hp => ?_⟩, hx⟩
    · have e : x + (((x :: r).getLast hne + 1 - x).toNat : Int) - 1 = (x :: r).getLast hne := by omega
      rw [e]
      exact (hm _).mp hl
    · by_cases h : f p = z
      · exact h
      · have hp' := (hm p).mpr h
        have h1 := hmax p hp'
        have h2 : x ≤ p := by
          rcases List.mem_cons.mp hp' with h | h
          · rw [h]; exact Int.le_refl _
          · exact List.rel_of_pairwise_cons hs h
        omega

/-! ### row_of -/
/-- what number != nothing tells -/
def EncOk {α : Type} [DecidableEq α] (enc : α → D) (z : α) : Prop := (∀ x, (enc x).nl) ∧ ∀ x (M : Mem) (R : Bool → Mem → Prop), R (!decide (x = z)) M → oNe (enc x) (enc z) M fun d M1 => match d with
  | .bl k => R k M1
  | _ => False
theorem enc_int : EncOk D.int (0 : Int) := ⟨fun _ => trivial, fun x M R h => by
  simp only [wSeq, wAsg, wCall, wCons, wNil, wVar, wC, wBin, wRet, wIfS, wTst, wGn, wPar, wPar3, wTup, wNeg, wCB, wNext, wNotT, wAndT, wOrT, wTru, wIf, wDrop, oAdd, oSub, oMul, oDiv, oMod, oPow, oI, oI0, oIB, oLt, oLe, oGt, oGe, oAt, oIx, oEq, oNe, oEqK, cAbs, cInt, cLen, wBrk, wCnt, wIsi, wAndV, wOrV, wNotV, D.ty, Ty.sub, D.truth, oIsK, D.isN, wRetN, wGsub, wGet2, D.key, wGcons, wGnil, wGtup, wTupL, wNew, wLst, wDNew, wYes, wIterT, wIter, wRg1, wRg2, wEnum, wFor, wLc, wDc, wCat, wKeys, wPop, wReverse, wAppend, wEmp, wDictP, wSortI, wSortD, wLrg, wCallK, start3, List.map_cons, List.map_nil, List.cons_append, List.nil_append, List.getElem?_cons_zero, List.getElem?_cons_succ, List.set_cons_zero, List.set_cons_succ, List.length_cons, List.length_nil, List.replicate_succ, List.replicate_zero, Option.bind_some, Bool.true_xor, Bool.false_xor, Bool.xor_false, Bool.not_true, Bool.not_false, if_true, if_false, Bool.false_eq_true, wipeE]
  exact h⟩
theorem enc_rat : EncOk qD (0 : Rat) := ⟨fun _ => ⟨trivial, trivial, trivial⟩, fun x M R h => by
  refine ⟨.tuple [.int x.num, .int x.den], .tuple [.int (0 : Rat).num, .int (0 : Rat).den], rfl, rfl, rfl, rfl, ?_⟩
  have e : PyData.eqv (.tuple [.int x.num, .int x.den]) (.tuple [.int (0 : Rat).num, .int (0 : Rat).den]) = decide (x = 0) := by
    have e0 : PyData.eqv (.tuple [.int x.num, .int x.den]) (.tuple [.int (0 : Rat).num, .int (0 : Rat).den]) = ((x.num == 0) && (((x.den : Int) == 1) && true)) := rfl
    rw [e0]
    by_cases hx : x = 0
    · subst hx
      rfl
    · rw [decide_eq_false hx]
      have : x.num ≠ 0 := fun z => hx (Rat.num_eq_zero.mp z)
      simp [this]
  rw [e, Bool.true_xor]
  exact h⟩
def nzP {α : Type} [DecidableEq α] (z : α) (f : Int → α) : Key × D → Option Int
  | (.inl i, _) => if f i = z then none else some i
  | (.inr _, _) => none
def S_rowG {α : Type} (enc : α → D) (z : α) : SP3 := fun ds M R => ∃ (i : Nat) (m : List (Key × D)) (f : Int → α), ds = [.loc i, enc z] ∧ M[i]? = some (.dK m) ∧ Rep enc z f m ∧ ∀ lo n, Trim z f lo n → n ≤ 2001 → -1000 ≤ lo → lo + n ≤ 1001 → R (rowD enc f lo n) M
section
variable {α : Type} [DecidableEq α] {enc : α → D} {z : α} {f : Int → α} {m : List (Key × D)}
theorem nz_mem (r : Rep enc z f m) (i : Int) : i ∈ m.filterMap (nzP z f) ↔ f i ≠ z := by
  rw [List.mem_filterMap]
  constructor
  · rintro ⟨⟨k, d⟩, h1, h2⟩
    cases k with
    | inl j =>
      have h2 : (if f j = z then none else some j) = some i := h2
      by_cases e : f j = z
      · rw [if_pos e] at h2
        cases h2
      · rw [if_neg e] at h2
        cases h2
        exact e
    | inr j => cases h2
  · intro h
    rcases r.val i with e | ⟨_, e⟩
    · exact ⟨_, valD_mem e, by show (if f i = z then none else some i) = some i; rw [if_neg h]⟩
    · exact (h e).elim
def itP (enc : α → D) (z : α) (f : Int → α) : D → Option D
  | .tup [.int i, _] => if f i = z then none else some (.int i)
  | _ => none
theorem it_map (r : Rep enc z f m) : (itemsD m).filterMap (itP enc z f) = (m.filterMap (nzP z f)).map D.int := by
  have key := r.key
  clear r
  induction m with
  | nil => rfl
  | cons p q ih =>
    obtain ⟨i, e1, e2⟩ := key p List.mem_cons_self
    obtain ⟨k, d⟩ := p
    cases e1
    have ih := ih fun p hp => key p (List.mem_cons_of_mem _ hp)
    unfold itemsD at ih ⊢
    have a1 : itP enc z f (D.tup [kD (Sum.inl i), d]) = if f i = z then none else some (D.int i) := rfl
    have a2 : nzP z f (Sum.inl i, d) = if f i = z then none else some i := rfl
    rw [List.map_cons, List.filterMap_cons, List.filterMap_cons, a1, a2]
    by_cases h : f i = z
    · rw [if_pos h, if_pos h]
      exact ih
    · rw [if_neg h, if_neg h]
      exact congrArg (D.int i :: ·) ih
end
end K75
set_option Elab.async false
set_option linter.all false
set_option maxRecDepth 100000
set_option maxHeartbeats 400000
namespace K75
open PySem PySem.Spec PyProof.Rows L2 Gx R3

section
variable {α : Type} [DecidableEq α] {enc : α → D} {z : α} {f : Int → α} {m : List (Key × D)}
theorem nls_map {β : Type} (g : β → D) (h : ∀ x, (g x).nl) : ∀ l : List β, D.nls (l.map g)
  | [] => trivial
  | x :: r => ⟨h x, nls_map g h r⟩
theorem atI_first {x : D} {l : List D} : atI (x :: l) 0 = some x := by
  unfold atI ixN
  simp
theorem atI_end {l : List Int} {y : Int} (h : l.getLast? = some y) : atI (l.map D.int) (-1) = some (.int y) := by
  have hne : l ≠ [] := fun e => by rw [e] at h; cases h
  have hp : 0 < l.length := List.length_pos_iff.mpr hne
  rw [List.getLast?_eq_getElem?] at h
  unfold atI ixN
  rw [if_neg (by decide), if_pos (by rw [List.length_map]; omega)]
  show (l.map D.int)[((-1 : Int) + ((l.map D.int).length : Int)).toNat]? = _
  rw [List.getElem?_map, List.length_map, show ((-1 : Int) + (l.length : Int)).toNat = l.length - 1 by omega, h]
  rfl
def row_tail : WS := (wSeq (wIfS (wNotT (wTru (wVar 2)))
  (wRet (wTup (wCons (wC (.int 0)) (wCons (wTup wNil) wNil))))
  wNext)
  (wRet (wTup (wCons (wBin oAt (wVar 2) (wC (.int 0))) (wCons (wTupL (wLc [3] (wRg2 (wCons (wBin oAt (wVar 2) (wC (.int 0))) (wCons (wBin oAdd (wBin oAt (wVar 2) (wNeg (wC (.int 1)))) (wC (.int 1))) wNil))) (wGn 3) wYes (wGet2 (wVar 0) (wVar 3) (wVar 1)))) wNil)))))
theorem row_tail_ok (he : EncOk enc z) {M : Mem} {R : D → Mem → Prop} {i : Nat} {ns : List Int} (wf : wfM M.length M) (hM : M[i]? = some (.dK m)) (r : Rep enc z f m) (hs : ns.Pairwise (· ≤ ·)) (hm : ∀ i, i ∈ ns ↔ f i ≠ z) (x y : Option D)
    (h : ∀ lo n, Trim z f lo n → n ≤ 2001 → -1000 ≤ lo → lo + n ≤ 1001 → R (rowD enc f lo n) M) : row_tail (ends3 M.length R) [some (.loc i), some (enc z), some (.loc M.length), x, y] (M ++ [.lst (ns.map .int)]) := by
  have hz : 3000 ≤ sizeLine := by rw [sizeLine_eq]; decide
  have hi : i < M.length := (List.getElem?_eq_some_iff.mp hM).1
  have hk : (M ++ [Ob.lst (ns.map D.int)])[M.length]? = some (.lst (ns.map .int)) := by rw [List.getElem?_append_right (Nat.le_refl _), Nat.sub_self]; rfl
  have hMi : (M ++ [Ob.lst (ns.map D.int)])[i]? = some (.dK m) := by rw [List.getElem?_append_left hi]; exact hM
  obtain ⟨t1, t2⟩ := trim_sorted hs hm
  unfold row_tail
  cases ns with
  | nil =>
    have hk : (M ++ [Ob.lst []])[M.length]? = some (.lst []) := hk
    simp only [wSeq, wAsg, wCall, wCons, wNil, wVar, wC, wBin, wRet, wIfS, wTst, wGn, wPar, wPar3, wTup, wNeg, wCB, wNext, wNotT, wAndT, wOrT, wTru, wIf, wDrop, oAdd, oSub, oMul, oDiv, oMod, oPow, oI, oI0, oIB, oLt, oLe, oGt, oGe, oAt, oIx, oEq, oNe, oEqK, cAbs, cInt, cLen, wBrk, wCnt, wIsi, wAndV, wOrV, wNotV, D.ty, Ty.sub, D.truth, oIsK, D.isN, wRetN, wGsub, wGet2, D.key, wGcons, wGnil, wGtup, wTupL, wNew, wLst, wDNew, wYes, wIterT, wIter, wRg1, wRg2, wEnum, wFor, wLc, wDc, wCat, wKeys, wPop, wReverse, wAppend, wEmp, wDictP, wSortI, wSortD, wLrg, wCallK, start3, List.map_cons, List.map_nil, List.cons_append, List.nil_append, List.getElem?_cons_zero, List.getElem?_cons_succ, List.set_cons_zero, List.set_cons_succ, List.length_cons, List.length_nil, List.replicate_succ, List.replicate_zero, Option.bind_some, Bool.true_xor, Bool.false_xor, Bool.xor_false, Bool.not_true, Bool.not_false, if_true, if_false, Bool.false_eq_true, wipeE, hk, List.isEmpty_nil]
    refine ⟨by omega, by omega, ?_⟩
    have e : D.tup [.int 0, .tup []] = rowD enc f 0 0 := rfl
    rw [e]
    exact ret_pre (List.prefix_append _ _) wf ⟨trivial, trivial, trivial⟩ (h 0 0 (t1 rfl) (by omega) (by omega) (by omega))
  | cons a l =>
    obtain ⟨t2, t3⟩ := t2 a l rfl
    have ha : f a ≠ z := (hm a).mp List.mem_cons_self
    have hk : (M ++ [Ob.lst (D.int a :: l.map D.int)])[M.length]? = some (.lst (D.int a :: l.map D.int)) := hk
    have ht : tblAt (M ++ [Ob.lst (D.int a :: l.map D.int)]) M.length = none := by
      unfold tblAt
      rw [hk]
      rfl
    obtain ⟨y', hy'⟩ : ∃ y', (a :: l).getLast? = some y' := ⟨_, List.getLast?_eq_getLast (List.cons_ne_nil _ _)⟩
    rw [hy'] at t2 t3
    have t2 : Trim z f a (y' + 1 - a).toNat := t2
    have t3 : a ≤ y' := t3
    have hy : f y' ≠ z := (hm y').mp (List.mem_of_getLast? hy')
    have bd : ∀ i, f i ≠ z → -1000 ≤ i ∧ i ≤ 1000 := fun i hi => by
      rcases r.val i with e | ⟨_, e⟩
      · exact r.bd i (List.mem_map_of_mem (f := (·.1)) (valD_mem e))
      · exact (hi e).elim
    have b1 := bd a ha
    have b2 := bd y' hy
    have he1 : atI (D.int a :: l.map D.int) (-1) = some (.int y') := atI_end hy'
    simp only [wSeq, wAsg, wCall, wCons, wNil, wVar, wC, wBin, wRet, wIfS, wTst, wGn, wPar, wPar3, wTup, wNeg, wCB, wNext, wNotT, wAndT, wOrT, wTru, wIf, wDrop, oAdd, oSub, oMul, oDiv, oMod, oPow, oI, oI0, oIB, oLt, oLe, oGt, oGe, oAt, oIx, oEq, oNe, oEqK, cAbs, cInt, cLen, wBrk, wCnt, wIsi, wAndV, wOrV, wNotV, D.ty, Ty.sub, D.truth, oIsK, D.isN, wRetN, wGsub, wGet2, D.key, wGcons, wGnil, wGtup, wTupL, wNew, wLst, wDNew, wYes, wIterT, wIter, wRg1, wRg2, wEnum, wFor, wLc, wDc, wCat, wKeys, wPop, wReverse, wAppend, wEmp, wDictP, wSortI, wSortD, wLrg, wCallK, start3, List.map_cons, List.map_nil, List.cons_append, List.nil_append, List.getElem?_cons_zero, List.getElem?_cons_succ, List.set_cons_zero, List.set_cons_succ, List.length_cons, List.length_nil, List.replicate_succ, List.replicate_zero, Option.bind_some, Bool.true_xor, Bool.false_xor, Bool.xor_false, Bool.not_true, Bool.not_false, if_true, if_false, Bool.false_eq_true, wipeE, hk, ht, List.isEmpty_cons, atI_first, he1]
    refine ⟨⟨⟨by omega, by omega⟩, by omega, by omega⟩, ?_⟩
    refine lc_pure (fun d => match d with | .int p => some (enc (f p)) | _ => none) trivial _ _ (fun d hd K1 K2 h1 h2 => ?_) (by rw [rgD_length]; simp only [List.length_nil]; omega) ?_
    · unfold rgD at hd
      obtain ⟨j, _, rfl⟩ := List.mem_map.mp hd
      have hMi' : tblAt (M ++ [Ob.lst (D.int a :: l.map D.int)]) i = some m := by
        unfold tblAt
        rw [show (M ++ [Ob.lst (D.int a :: l.map D.int)])[i]? = some (.dK m) from hMi]
        rfl
      simp only [wSeq, wAsg, wCall, wCons, wNil, wVar, wC, wBin, wRet, wIfS, wTst, wGn, wPar, wPar3, wTup, wNeg, wCB, wNext, wNotT, wAndT, wOrT, wTru, wIf, wDrop, oAdd, oSub, oMul, oDiv, oMod, oPow, oI, oI0, oIB, oLt, oLe, oGt, oGe, oAt, oIx, oEq, oNe, oEqK, cAbs, cInt, cLen, wBrk, wCnt, wIsi, wAndV, wOrV, wNotV, D.ty, Ty.sub, D.truth, oIsK, D.isN, wRetN, wGsub, wGet2, D.key, wGcons, wGnil, wGtup, wTupL, wNew, wLst, wDNew, wYes, wIterT, wIter, wRg1, wRg2, wEnum, wFor, wLc, wDc, wCat, wKeys, wPop, wReverse, wAppend, wEmp, wDictP, wSortI, wSortD, wLrg, wCallK, start3, List.map_cons, List.map_nil, List.cons_append, List.nil_append, List.getElem?_cons_zero, List.getElem?_cons_succ, List.set_cons_zero, List.set_cons_succ, List.length_cons, List.length_nil, List.replicate_succ, List.replicate_zero, Option.bind_some, Bool.true_xor, Bool.false_xor, Bool.xor_false, Bool.not_true, Bool.not_false, if_true, if_false, Bool.false_eq_true, wipeE, hMi']
      rw [r.getD]
      exact h1 _ rfl
    · refine ⟨by omega, ?_⟩
      rw [List.nil_append]
      have e : D.tup [.int a, .tup ((rgD a (y' + 1 - a).toNat).filterMap fun d => match d with | .int p => some (enc (f p)) | _ => none)] = rowD enc f a (y' + 1 - a).toNat := by
        unfold rowD rgD
        rw [List.filterMap_map]
        congr 4
        rw [← List.filterMap_eq_map]
        rfl
      rw [e]
      exact ret_pre (List.prefix_append _ _) wf ⟨trivial, nls_map _ (fun _ => he.1 _) _, trivial⟩ (h a _ t2 (by omega) (by omega) (by omega))
theorem lkAt_set {M : Mem} {i : Nat} (hi : i < M.length) : lkAt (M.set i (.lkK m)) i = some m := by
  unfold lkAt
  rw [List.getElem?_set_self hi]
theorem set_back {M : Mem} {i : Nat} {l : Mem} (hM : M[i]? = some (.dK m)) : ((M.set i (.lkK m)) ++ l).set i (.dK m) = M ++ l := by
  have hi : i < M.length := (List.getElem?_eq_some_iff.mp hM).1
  rw [List.set_append_left _ _ (by rw [List.length_set]; exact hi), List.set_set]
  congr 1
  refine List.ext_getElem? fun j => ?_
  by_cases h : i = j
  · subst h
    rw [List.getElem?_set_self hi, hM]
  · rw [List.getElem?_set_ne h]
theorem P_row_gen (he : EncOk enc z) : ∀ ds M R, wfM M.length M → S_rowG enc z ds M R → W_row_of (ends3 M.length R) (start3 N_row_of ds) M := by
  rintro _ M R wf ⟨i, m, f, rfl, hM, r, h⟩
  have hi : i < M.length := (List.getElem?_eq_some_iff.mp hM).1
  have hlk := lkAt_set (m := m) hi
  have hz : 3000 ≤ sizeLine := by rw [sizeLine_eq]; decide
  show (wSeq (wLock (wAsg (wNew (wSortI (wLc [3, 4] (wKeys itemsD (wVar 0)) (wGtup 2 (wGcons (wGn 3) (wGcons (wGn 4) wGnil))) (wTst (wBin oNe (wVar 4) (wVar 1))) (wVar 3)))) (wGn 2)))
  row_tail) _ _ _
  rw [wSeq]
  refine ⟨i, m, hM, ?_⟩
  generalize hX : row_tail = X
  simp only [N_row_of, wSeq, wAsg, wCall, wCons, wNil, wVar, wC, wBin, wRet, wIfS, wTst, wGn, wPar, wPar3, wTup, wNeg, wCB, wNext, wNotT, wAndT, wOrT, wTru, wIf, wDrop, oAdd, oSub, oMul, oDiv, oMod, oPow, oI, oI0, oIB, oLt, oLe, oGt, oGe, oAt, oIx, oEq, oNe, oEqK, cAbs, cInt, cLen, wBrk, wCnt, wIsi, wAndV, wOrV, wNotV, D.ty, Ty.sub, D.truth, oIsK, D.isN, wRetN, wGsub, wGet2, D.key, wGcons, wGnil, wGtup, wTupL, wNew, wLst, wDNew, wYes, wIterT, wIter, wRg1, wRg2, wEnum, wFor, wLc, wDc, wCat, wKeys, wPop, wReverse, wAppend, wEmp, wDictP, wSortI, wSortD, wLrg, wCallK, start3, List.map_cons, List.map_nil, List.cons_append, List.nil_append, List.getElem?_cons_zero, List.getElem?_cons_succ, List.set_cons_zero, List.set_cons_succ, List.length_cons, List.length_nil, List.replicate_succ, List.replicate_zero, Option.bind_some, Bool.true_xor, Bool.false_xor, Bool.xor_false, Bool.not_true, Bool.not_false, if_true, if_false, Bool.false_eq_true, wipeE, hlk]
  refine lc_pure (itP enc z f) (List.getElem?_set_self hi) _ _ (fun d hd K1 K2 h1 h2 => ?_) (by unfold itemsD; simp only [List.length_map, List.length_nil]; have := r.len; omega) ?_
  · unfold itemsD at hd
    obtain ⟨⟨k, v⟩, hp, rfl⟩ := List.mem_map.mp hd
    obtain ⟨j, e1, e2⟩ := r.key _ hp
    simp only at e1 e2
    subst e1 e2
    simp only [wSeq, wAsg, wCall, wCons, wNil, wVar, wC, wBin, wRet, wIfS, wTst, wGn, wPar, wPar3, wTup, wNeg, wCB, wNext, wNotT, wAndT, wOrT, wTru, wIf, wDrop, oAdd, oSub, oMul, oDiv, oMod, oPow, oI, oI0, oIB, oLt, oLe, oGt, oGe, oAt, oIx, cAbs, cInt, cLen, wBrk, wCnt, wIsi, wAndV, wOrV, wNotV, D.ty, Ty.sub, D.truth, oIsK, D.isN, wRetN, wGsub, wGet2, D.key, wGcons, wGnil, wGtup, wTupL, wNew, wLst, wDNew, wYes, wIterT, wIter, wRg1, wRg2, wEnum, wFor, wLc, wDc, wCat, wKeys, wPop, wReverse, wAppend, wEmp, wDictP, wSortI, wSortD, wLrg, wCallK, start3, List.map_cons, List.map_nil, List.cons_append, List.nil_append, List.getElem?_cons_zero, List.getElem?_cons_succ, List.set_cons_zero, List.set_cons_succ, List.length_cons, List.length_nil, List.replicate_succ, List.replicate_zero, Option.bind_some, Bool.true_xor, Bool.false_xor, Bool.xor_false, Bool.not_true, Bool.not_false, if_true, if_false, Bool.false_eq_true, wipeE, true_and]
    refine he.2 (f j) _ (fun c M1 => if c = true then K1 (kD (Sum.inl j)) M1 else K2 M1) ?_
    by_cases hj : f j = z
    · rw [decide_eq_true hj, Bool.not_true, if_neg (by decide)]
      refine h2 ?_
      show (if f j = z then none else some (D.int j)) = none
      rw [if_pos hj]
    · rw [decide_eq_false hj, Bool.not_false, if_pos rfl]
      refine h1 _ ?_
      show (if f j = z then none else some (D.int j)) = some (D.int j)
      rw [if_neg hj]
  · rw [List.nil_append, it_map r]
    refine ⟨_, rfl, fun ns hp hs => ⟨?_, ?_⟩⟩
    · rw [List.getElem?_append_left (by rw [List.length_set]; exact hi), List.getElem?_set_self hi]
    · rw [set_back hM, List.length_set]
      subst hX
      exact row_tail_ok he wf hM r hs (fun i => by rw [hp.mem_iff]; exact nz_mem r i) none none h
end
end K75
set_option Elab.async false
set_option linter.all false
set_option maxRecDepth 100000
set_option maxHeartbeats 400000
namespace K75
open PySem PySem.Spec PyProof.Rows L2 Gx R3

def S_row_of : SP3 := fun ds M R => S_rowG D.int (0 : Int) ds M R ∨ S_rowG qD (0 : Rat) ds M R
theorem P_row_of : ∀ ds M R, wfM M.length M → S_row_of ds M R → W_row_of (ends3 M.length R) (start3 N_row_of ds) M := fun ds M R wf h => h.elim (P_row_gen enc_int ds M R wf) (P_row_gen enc_rat ds M R wf)
def S_row1 {α : Type} (enc : α → D) (z : α) : SP3 := fun ds M R => ∃ (i : Nat) (m : List (Key × D)) (f : Int → α), ds = [.loc i] ∧ M[i]? = some (.dK m) ∧ Rep enc z f m ∧ ∀ lo n, Trim z f lo n → n ≤ 2001 → -1000 ≤ lo → lo + n ≤ 1001 → R (rowD enc f lo n) M
theorem rowD_nl {α : Type} {enc : α → D} (he : ∀ x, (enc x).nl) (f : Int → α) (lo : Int) (n : Nat) : (rowD enc f lo n).nl := ⟨trivial, nls_map _ (fun _ => he _) _, trivial⟩
theorem P_whole_row : ∀ ds M R, wfM M.length M → S_row1 D.int (0 : Int) ds M R → W_whole_row S_row_of (ends3 M.length R) (start3 N_whole_row ds) M := by
  rintro _ M R wf ⟨i, m, f, rfl, hM, r, h⟩
  simp only [W_whole_row, N_whole_row, wSeq, wAsg, wCall, wCons, wNil, wVar, wC, wBin, wRet, wIfS, wTst, wGn, wPar, wPar3, wTup, wNeg, wCB, wNext, wNotT, wAndT, wOrT, wTru, wIf, wDrop, oAdd, oSub, oMul, oDiv, oMod, oPow, oI, oI0, oIB, oLt, oLe, oGt, oGe, oAt, oIx, oEq, oNe, oEqK, cAbs, cInt, cLen, wBrk, wCnt, wIsi, wAndV, wOrV, wNotV, D.ty, Ty.sub, D.truth, oIsK, D.isN, wRetN, wGsub, wGet2, D.key, wGcons, wGnil, wGtup, wTupL, wNew, wLst, wDNew, wYes, wIterT, wIter, wRg1, wRg2, wEnum, wFor, wLc, wDc, wCat, wKeys, wPop, wReverse, wAppend, wEmp, wDictP, wSortI, wSortD, wLrg, wCallK, start3, List.map_cons, List.map_nil, List.cons_append, List.nil_append, List.getElem?_cons_zero, List.getElem?_cons_succ, List.set_cons_zero, List.set_cons_succ, List.length_cons, List.length_nil, List.replicate_succ, List.replicate_zero, Option.bind_some, Bool.true_xor, Bool.false_xor, Bool.xor_false, Bool.not_true, Bool.not_false, if_true, if_false, Bool.false_eq_true, wipeE]
  exact .inl ⟨i, m, f, rfl, hM, r, fun lo n h1 h2 h3 h4 => ret_same wf (rowD_nl enc_int.1 _ _ _) (h lo n h1 h2 h3 h4)⟩
theorem P_fraction_row : ∀ ds M R, wfM M.length M → S_row1 qD (0 : Rat) ds M R → W_fraction_row S_row_of (qD 0) (ends3 M.length R) (start3 N_fraction_row ds) M := by
  rintro _ M R wf ⟨i, m, f, rfl, hM, r, h⟩
  simp only [W_fraction_row, N_fraction_row, wSeq, wAsg, wCall, wCons, wNil, wVar, wC, wBin, wRet, wIfS, wTst, wGn, wPar, wPar3, wTup, wNeg, wCB, wNext, wNotT, wAndT, wOrT, wTru, wIf, wDrop, oAdd, oSub, oMul, oDiv, oMod, oPow, oI, oI0, oIB, oLt, oLe, oGt, oGe, oAt, oIx, oEq, oNe, oEqK, cAbs, cInt, cLen, wBrk, wCnt, wIsi, wAndV, wOrV, wNotV, D.ty, Ty.sub, D.truth, oIsK, D.isN, wRetN, wGsub, wGet2, D.key, wGcons, wGnil, wGtup, wTupL, wNew, wLst, wDNew, wYes, wIterT, wIter, wRg1, wRg2, wEnum, wFor, wLc, wDc, wCat, wKeys, wPop, wReverse, wAppend, wEmp, wDictP, wSortI, wSortD, wLrg, wCallK, start3, List.map_cons, List.map_nil, List.cons_append, List.nil_append, List.getElem?_cons_zero, List.getElem?_cons_succ, List.set_cons_zero, List.set_cons_succ, List.length_cons, List.length_nil, List.replicate_succ, List.replicate_zero, Option.bind_some, Bool.true_xor, Bool.false_xor, Bool.xor_false, Bool.not_true, Bool.not_false, if_true, if_false, Bool.false_eq_true, wipeE]
  exact .inr ⟨i, m, f, rfl, hM, r, fun lo n h1 h2 h3 h4 => ret_same wf (rowD_nl enc_rat.1 _ _ _) (h lo n h1 h2 h3 h4)⟩
/-! ### the law's row -/
theorem pys_ints : ∀ l : List Int, D.pys (l.map D.int) = some (l.map PyData.int)
  | [] => rfl
  | x :: r => by
    rw [List.map_cons]
    unfold D.pys
    rw [pys_ints r]
    rfl
theorem canLay_ints : ∀ l : List Int, PyData.canLayAll0 (l.map PyData.int) = true
  | [] => rfl
  | x :: r => by
    rw [List.map_cons]
    unfold PyData.canLayAll0
    rw [canLay_ints r]
    rfl
theorem depthAll_ints : ∀ l : List Int, PyData.depthAll (l.map PyData.int) = 0
  | [] => rfl
  | x :: r => by
    rw [List.map_cons]
    unfold PyData.depthAll
    rw [depthAll_ints r]
    rfl
theorem depth_ints (l : List Int) : PyData.depth (.list (l.map PyData.int)) ≤ 64 := by
  unfold PyData.depth
  rw [depthAll_ints]
  decide
theorem shaped_ints (l : List Int) : SeqAt.shaped (.list (l.map PyData.int)) = true := by
  unfold SeqAt.shaped
  rw [decide_eq_true (depth_ints l)]
  have : PyData.canLay0 (.list (l.map PyData.int)) = true := by
    unfold PyData.canLay0
    exact canLay_ints l
  rw [this]
  rfl
def law_row_tail : WS := (wSeq (wIfS (wEmp false (wVar 1))
  (wRet (wTup (wCons (wC (.int 0)) (wCons (wTup wNil) wNil))))
  wNext)
  (wRet (wTup (wCons (wBin oAt (wVar 1) (wC (.int 0))) (wCons (wTupL (wLc [2] (wRg2 (wCons (wBin oAt (wVar 1) (wC (.int 0))) (wCons (wBin oAdd (wBin oAt (wVar 1) (wNeg (wC (.int 1)))) (wC (.int 1))) wNil))) (wGn 2) wYes (wGet2 (wVar 0) (wVar 2) (wC (.int 0))))) wNil)))))
section
variable {f : Int → Int} {m : List (Key × D)}
def ktP (f : Int → Int) : D → Option D
  | .int i => if f i = 0 then none else some (.int i)
  | _ => none
theorem kt_map (r : Rep D.int (0 : Int) f m) : (keysD m).filterMap (ktP f) = (m.filterMap (nzP 0 f)).map D.int := by
  have key := r.key
  clear r
  induction m with
  | nil => rfl
  | cons p q ih =>
    obtain ⟨i, e1, e2⟩ := key p List.mem_cons_self
    obtain ⟨k, d⟩ := p
    cases e1
    have ih := ih fun p hp => key p (List.mem_cons_of_mem _ hp)
    unfold keysD at ih ⊢
    have a1 : ktP f (kD (Sum.inl i)) = if f i = 0 then none else some (D.int i) := rfl
    have a2 : nzP 0 f (Sum.inl i, d) = if f i = 0 then none else some i := rfl
    rw [List.map_cons, List.filterMap_cons, List.filterMap_cons, a1, a2]
    by_cases h : f i = 0
    · rw [if_pos h, if_pos h]
      exact ih
    · rw [if_neg h, if_neg h]
      exact congrArg (D.int i :: ·) ih
theorem law_tail_ok {M : Mem} {R : D → Mem → Prop} {i : Nat} {ns : List Int} (wf : wfM M.length M) (hM : M[i]? = some (.dK m)) (r : Rep D.int 0 f m) (hs : ns.Pairwise (· ≤ ·)) (hm : ∀ i, i ∈ ns ↔ f i ≠ 0) (x : Option D)
    (h : ∀ lo n, Trim 0 f lo n → n ≤ 2001 → -1000 ≤ lo → lo + n ≤ 1001 → R (rowD D.int f lo n) M) : law_row_tail (ends3 M.length R) [some (.loc i), some (.loc M.length), x] (M ++ [.lst (ns.map .int)]) := by
  have hz : 3000 ≤ sizeLine := by rw [sizeLine_eq]; decide
  have hi : i < M.length := (List.getElem?_eq_some_iff.mp hM).1
  have hk : (M ++ [Ob.lst (ns.map D.int)])[M.length]? = some (.lst (ns.map .int)) := by rw [List.getElem?_append_right (Nat.le_refl _), Nat.sub_self]; rfl
  have hMi : (M ++ [Ob.lst (ns.map D.int)])[i]? = some (.dK m) := by rw [List.getElem?_append_left hi]; exact hM
  obtain ⟨t1, t2⟩ := trim_sorted hs hm
  have hp := pys_ints ns
  have hsh := shaped_ints ns
  unfold law_row_tail
  cases ns with
  | nil =>
    have hk : (M ++ [Ob.lst []])[M.length]? = some (.lst []) := hk
    have hp : D.pys [] = some [] := rfl
    simp only [wSeq, wAsg, wCall, wCons, wNil, wVar, wC, wBin, wRet, wIfS, wTst, wGn, wPar, wPar3, wTup, wNeg, wCB, wNext, wNotT, wAndT, wOrT, wTru, wIf, wDrop, oAdd, oSub, oMul, oDiv, oMod, oPow, oI, oI0, oIB, oLt, oLe, oGt, oGe, oAt, oIx, oEq, oNe, oEqK, cAbs, cInt, cLen, wBrk, wCnt, wIsi, wAndV, wOrV, wNotV, D.ty, Ty.sub, D.truth, oIsK, D.isN, wRetN, wGsub, wGet2, D.key, wGcons, wGnil, wGtup, wTupL, wNew, wLst, wDNew, wYes, wIterT, wIter, wRg1, wRg2, wEnum, wFor, wLc, wDc, wCat, wKeys, wPop, wReverse, wAppend, wEmp, wDictP, wSortI, wSortD, wLrg, wCallK, start3, List.map_cons, List.map_nil, List.cons_append, List.nil_append, List.getElem?_cons_zero, List.getElem?_cons_succ, List.set_cons_zero, List.set_cons_succ, List.length_cons, List.length_nil, List.replicate_succ, List.replicate_zero, Option.bind_some, Bool.true_xor, Bool.false_xor, Bool.xor_false, Bool.not_true, Bool.not_false, if_true, if_false, Bool.false_eq_true, wipeE, hk, Ob.seq, hp, List.isEmpty_nil]
    refine ⟨hsh, by omega, by omega, ?_⟩
    have e : D.tup [.int 0, .tup []] = rowD D.int f 0 0 := rfl
    rw [e]
    exact ret_pre (List.prefix_append _ _) wf ⟨trivial, trivial, trivial⟩ (h 0 0 (t1 rfl) (by omega) (by omega) (by omega))
  | cons a l =>
    obtain ⟨t2, t3⟩ := t2 a l rfl
    have ha : f a ≠ 0 := (hm a).mp List.mem_cons_self
    have hk : (M ++ [Ob.lst (D.int a :: l.map D.int)])[M.length]? = some (.lst (D.int a :: l.map D.int)) := hk
    have hp : D.pys (D.int a :: l.map D.int) = some ((a :: l).map PyData.int) := hp
    have ht : tblAt (M ++ [Ob.lst (D.int a :: l.map D.int)]) M.length = none := by
      unfold tblAt
      rw [hk]
      rfl
    obtain ⟨y', hy'⟩ : ∃ y', (a :: l).getLast? = some y' := ⟨_, List.getLast?_eq_getLast (List.cons_ne_nil _ _)⟩
    rw [hy'] at t2 t3
    have t2 : Trim 0 f a (y' + 1 - a).toNat := t2
    have t3 : a ≤ y' := t3
    have hy : f y' ≠ 0 := (hm y').mp (List.mem_of_getLast? hy')
    have bd : ∀ i, f i ≠ 0 → -1000 ≤ i ∧ i ≤ 1000 := fun i hi => by
      rcases r.val i with e | ⟨_, e⟩
      · exact r.bd i (List.mem_map_of_mem (f := (·.1)) (valD_mem e))
      · exact (hi e).elim
    have b1 := bd a ha
    have b2 := bd y' hy
    have he1 : atI (D.int a :: l.map D.int) (-1) = some (.int y') := atI_end hy'
    simp only [wSeq, wAsg, wCall, wCons, wNil, wVar, wC, wBin, wRet, wIfS, wTst, wGn, wPar, wPar3, wTup, wNeg, wCB, wNext, wNotT, wAndT, wOrT, wTru, wIf, wDrop, oAdd, oSub, oMul, oDiv, oMod, oPow, oI, oI0, oIB, oLt, oLe, oGt, oGe, oAt, oIx, oEq, oNe, oEqK, cAbs, cInt, cLen, wBrk, wCnt, wIsi, wAndV, wOrV, wNotV, D.ty, Ty.sub, D.truth, oIsK, D.isN, wRetN, wGsub, wGet2, D.key, wGcons, wGnil, wGtup, wTupL, wNew, wLst, wDNew, wYes, wIterT, wIter, wRg1, wRg2, wEnum, wFor, wLc, wDc, wCat, wKeys, wPop, wReverse, wAppend, wEmp, wDictP, wSortI, wSortD, wLrg, wCallK, start3, List.map_cons, List.map_nil, List.cons_append, List.nil_append, List.getElem?_cons_zero, List.getElem?_cons_succ, List.set_cons_zero, List.set_cons_succ, List.length_cons, List.length_nil, List.replicate_succ, List.replicate_zero, Option.bind_some, Bool.true_xor, Bool.false_xor, Bool.xor_false, Bool.not_true, Bool.not_false, if_true, if_false, Bool.false_eq_true, wipeE, hk, ht, Ob.seq, hp, List.isEmpty_cons, atI_first, he1]
    refine ⟨hsh, ⟨⟨by omega, by omega⟩, by omega, by omega⟩, ?_⟩
    refine lc_pure (fun d => match d with | .int p => some (.int (f p)) | _ => none) trivial _ _ (fun d hd K1 K2 h1 h2 => ?_) (by rw [rgD_length]; simp only [List.length_nil]; omega) ?_
    · unfold rgD at hd
      obtain ⟨j, _, rfl⟩ := List.mem_map.mp hd
      have hMi' : tblAt (M ++ [Ob.lst (D.int a :: l.map D.int)]) i = some m := by
        unfold tblAt
        rw [show (M ++ [Ob.lst (D.int a :: l.map D.int)])[i]? = some (.dK m) from hMi]
        rfl
      simp only [wSeq, wAsg, wCall, wCons, wNil, wVar, wC, wBin, wRet, wIfS, wTst, wGn, wPar, wPar3, wTup, wNeg, wCB, wNext, wNotT, wAndT, wOrT, wTru, wIf, wDrop, oAdd, oSub, oMul, oDiv, oMod, oPow, oI, oI0, oIB, oLt, oLe, oGt, oGe, oAt, oIx, oEq, oNe, oEqK, cAbs, cInt, cLen, wBrk, wCnt, wIsi, wAndV, wOrV, wNotV, D.ty, Ty.sub, D.truth, oIsK, D.isN, wRetN, wGsub, wGet2, D.key, wGcons, wGnil, wGtup, wTupL, wNew, wLst, wDNew, wYes, wIterT, wIter, wRg1, wRg2, wEnum, wFor, wLc, wDc, wCat, wKeys, wPop, wReverse, wAppend, wEmp, wDictP, wSortI, wSortD, wLrg, wCallK, start3, List.map_cons, List.map_nil, List.cons_append, List.nil_append, List.getElem?_cons_zero, List.getElem?_cons_succ, List.set_cons_zero, List.set_cons_succ, List.length_cons, List.length_nil, List.replicate_succ, List.replicate_zero, Option.bind_some, Bool.true_xor, Bool.false_xor, Bool.xor_false, Bool.not_true, Bool.not_false, if_true, if_false, Bool.false_eq_true, wipeE, hMi']
      rw [r.getD]
      exact h1 _ rfl
    · refine ⟨by omega, ?_⟩
      rw [List.nil_append]
      have e : D.tup [.int a, .tup ((rgD a (y' + 1 - a).toNat).filterMap fun d => match d with | .int p => some (.int (f p)) | _ => none)] = rowD D.int f a (y' + 1 - a).toNat := by
        unfold rowD rgD
        rw [List.filterMap_map]
        congr 4
        rw [← List.filterMap_eq_map]
        rfl
      rw [e]
      exact ret_pre (List.prefix_append _ _) wf (rowD_nl enc_int.1 f a _) (h a _ t2 (by omega) (by omega) (by omega))
theorem P__law_row : ∀ ds M R, wfM M.length M → S_row1 D.int (0 : Int) ds M R → W__law_row (ends3 M.length R) (start3 N__law_row ds) M := by
  rintro _ M R wf ⟨i, m, f, rfl, hM, r, h⟩
  have hi : i < M.length := (List.getElem?_eq_some_iff.mp hM).1
  have hlk := lkAt_set (m := m) hi
  have hz : 3000 ≤ sizeLine := by rw [sizeLine_eq]; decide
  have ht : tblAt (M.set i (.lkK m)) i = some m := by
    unfold tblAt
    rw [List.getElem?_set_self hi]
    rfl
  show (wSeq (wLock (wAsg (wNew (wSortI (wLc [2] (wKeys keysD (wVar 0)) (wGn 2) (wTst (wBin oNe (wBin oAt (wVar 0) (wVar 2)) (wC (.int 0)))) (wVar 2)))) (wGn 1)))
  law_row_tail) _ _ _
  rw [wSeq]
  refine ⟨i, m, hM, ?_⟩
  generalize hX : law_row_tail = X
  simp only [N__law_row, wSeq, wAsg, wCall, wCons, wNil, wVar, wC, wBin, wRet, wIfS, wTst, wGn, wPar, wPar3, wTup, wNeg, wCB, wNext, wNotT, wAndT, wOrT, wTru, wIf, wDrop, oAdd, oSub, oMul, oDiv, oMod, oPow, oI, oI0, oIB, oLt, oLe, oGt, oGe, oAt, oIx, oEq, oNe, oEqK, cAbs, cInt, cLen, wBrk, wCnt, wIsi, wAndV, wOrV, wNotV, D.ty, Ty.sub, D.truth, oIsK, D.isN, wRetN, wGsub, wGet2, D.key, wGcons, wGnil, wGtup, wTupL, wNew, wLst, wDNew, wYes, wIterT, wIter, wRg1, wRg2, wEnum, wFor, wLc, wDc, wCat, wKeys, wPop, wReverse, wAppend, wEmp, wDictP, wSortI, wSortD, wLrg, wCallK, start3, List.map_cons, List.map_nil, List.cons_append, List.nil_append, List.getElem?_cons_zero, List.getElem?_cons_succ, List.set_cons_zero, List.set_cons_succ, List.length_cons, List.length_nil, List.replicate_succ, List.replicate_zero, Option.bind_some, Bool.true_xor, Bool.false_xor, Bool.xor_false, Bool.not_true, Bool.not_false, if_true, if_false, Bool.false_eq_true, wipeE, hlk]
  refine lc_pure (ktP f) (List.getElem?_set_self hi) _ _ (fun d hd K1 K2 h1 h2 => ?_) (by unfold keysD; simp only [List.length_map, List.length_nil]; have := r.len; omega) ?_
  · unfold keysD at hd
    obtain ⟨⟨k, v⟩, hp, rfl⟩ := List.mem_map.mp hd
    obtain ⟨j, e1, e2⟩ := r.key _ hp
    simp only at e1 e2
    subst e1 e2
    rcases r.val j with hv | ⟨hv, _⟩
    · simp only [wSeq, wAsg, wCall, wCons, wNil, wVar, wC, wBin, wRet, wIfS, wTst, wGn, wPar, wPar3, wTup, wNeg, wCB, wNext, wNotT, wAndT, wOrT, wTru, wIf, wDrop, oAdd, oSub, oMul, oDiv, oMod, oPow, oI, oI0, oIB, oLt, oLe, oGt, oGe, oAt, oIx, oEq, oNe, oEqK, cAbs, cInt, cLen, wBrk, wCnt, wIsi, wAndV, wOrV, wNotV, D.ty, Ty.sub, D.truth, oIsK, D.isN, wRetN, wGsub, wGet2, D.key, wGcons, wGnil, wGtup, wTupL, wNew, wLst, wDNew, wYes, wIterT, wIter, wRg1, wRg2, wEnum, wFor, wLc, wDc, wCat, wKeys, wPop, wReverse, wAppend, wEmp, wDictP, wSortI, wSortD, wLrg, wCallK, start3, List.map_cons, List.map_nil, List.cons_append, List.nil_append, List.getElem?_cons_zero, List.getElem?_cons_succ, List.set_cons_zero, List.set_cons_succ, List.length_cons, List.length_nil, List.replicate_succ, List.replicate_zero, Option.bind_some, Bool.true_xor, Bool.false_xor, Bool.xor_false, Bool.not_true, Bool.not_false, if_true, if_false, Bool.false_eq_true, wipeE, kD, ht, hv]
      by_cases hj : f j = 0
      · rw [decide_eq_true hj, Bool.not_true, if_neg (by decide)]
        refine h2 ?_
        show (if f j = 0 then none else some (D.int j)) = none
        rw [if_pos hj]
      · rw [decide_eq_false hj, Bool.not_false, if_pos rfl]
        refine h1 _ ?_
        show (if f j = 0 then none else some (D.int j)) = some (D.int j)
        rw [if_neg hj]
    · exact ((valD_none hv) (List.mem_map_of_mem (f := (·.1)) hp)).elim
  · rw [List.nil_append, kt_map r]
    refine ⟨_, rfl, fun ns hp hs => ⟨?_, ?_⟩⟩
    · rw [List.getElem?_append_left (by rw [List.length_set]; exact hi), List.getElem?_set_self hi]
    · rw [set_back hM, List.length_set]
      subst hX
      exact law_tail_ok wf hM r hs (fun i => by rw [hp.mem_iff]; exact nz_mem r i) none h
end
end K75
set_option Elab.async false
set_option linter.all false
set_option maxRecDepth 100000
set_option maxHeartbeats 400000
namespace K75
open PySem PySem.Spec PyProof.Rows L2 Gx R3

/-! ### a row's numbers by places -/
def numD : Int → List D → List (Key × D)
  | _, [] => []
  | lo, x :: r => (.inl lo, x) :: numD (lo + 1) r
theorem putD_new {κ α : Type} [DecidableEq κ] {m : List (κ × α)} {k : κ} {v : α} (h : k ∉ m.map (·.1)) : putD m k v = m ++ [(k, v)] := by
  unfold putD
  rw [if_neg]
  intro z
  obtain ⟨p, h1, h2⟩ := List.any_eq_true.mp z
  exact h (by rw [← of_decide_eq_true h2]; exact List.mem_map_of_mem h1)
theorem numD_key : ∀ (xs : List D) (lo : Int) (p : Key × D), p ∈ numD lo xs → ∃ k : Nat, k < xs.length ∧ p.1 = .inl (lo + k) ∧ xs[k]? = some p.2
  | [], lo, p, h => by cases h
  | x :: r, lo, p, h => by
    rcases List.mem_cons.mp h with rfl | h
    · exact ⟨0, Nat.succ_pos _, by simp, rfl⟩
    · obtain ⟨k, h1, h2, h3⟩ := numD_key r (lo + 1) p h
      exact ⟨k + 1, Nat.succ_lt_succ h1, by rw [h2]; congr 1; omega, h3⟩
theorem numD_len : ∀ (xs : List D) (lo : Int), (numD lo xs).length = xs.length
  | [], _ => rfl
  | x :: r, lo => congrArg (· + 1) (numD_len r (lo + 1))
theorem numD_snoc : ∀ (xs : List D) (lo : Int) (x : D), numD lo (xs ++ [x]) = numD lo xs ++ [(.inl (lo + (xs.length : Int)), x)]
  | [], lo, x => by simp [numD]
  | y :: r, lo, x => by
    rw [List.cons_append]
    unfold numD
    rw [numD_snoc r (lo + 1) x, List.cons_append]
    congr 5
    rw [List.length_cons]
    omega
theorem numD_keys (xs : List D) (lo i : Int) : (Sum.inl i : Key) ∈ (numD lo xs).map (·.1) ↔ lo ≤ i ∧ i < lo + xs.length := by
  induction xs generalizing lo with
  | nil =>
    simp only [numD, List.map_nil, List.length_nil]
    constructor
    · intro h; cases h
    · omega
  | cons x r ih =>
    unfold numD
    rw [List.map_cons, List.mem_cons, ih, List.length_cons]
    simp only [Sum.inl.injEq]
    omega
theorem numD_nd : ∀ (xs : List D) (lo : Int), ((numD lo xs).map (·.1)).Nodup
  | [], _ => List.nodup_nil
  | x :: r, lo => by
    unfold numD
    rw [List.map_cons, List.nodup_cons]
    exact ⟨fun h => by have := (numD_keys r (lo + 1) lo).mp h; omega, numD_nd r (lo + 1)⟩
def S_numbers : SP3 := fun ds M R => ∃ (lo : Int) (xs : List D), ds = [.tup [.int lo, .tup xs]] ∧ xs.length ≤ 2500 ∧ D.nls xs ∧ R (.loc M.length) (M ++ [.dK (numD lo xs)])
theorem nls_wfK {xs : List D} {lo : Int} (n : Nat) (h : D.nls xs) : D.wfK n (numD lo xs) := fun p hp => by
  obtain ⟨k, _, _, h3⟩ := numD_key xs lo p hp
  have : ∀ {l : List D} {k : Nat} {d : D}, D.nls l → l[k]? = some d → d.nl := by
    intro l
    induction l with
    | nil => intro k d _ e; simp at e
    | cons x r ih =>
      intro k d hn e
      cases k with
      | zero => cases e; exact hn.1
      | succ k => exact ih hn.2 e
  exact D.nl_wf _ _ (this h h3)
theorem ret_dict {M M' : Mem} {k : Nat} {m : List (Key × D)} {R : D → Mem → Prop} (hp : M <+: M') (hw : wfM M.length M) (hk : M.length ≤ k) (hob : M'[k]? = some (.dK m)) (ho : D.wfK M.length m) (h : R (.loc M.length) (M ++ [.dK m])) : (ends3 M.length R).rt (.loc k) M' :=
  ret_new (d'' := .loc M.length) hp hw hk hob ho ren_new.symm (Nat.lt_succ_self _) h
theorem P_numbers_of : ∀ ds M R, wfM M.length M → S_numbers ds M R → W_numbers_of (ends3 M.length R) (start3 N_numbers_of ds) M := by
  rintro _ M R wf ⟨lo, xs, rfl, hx, hn, h⟩
  have hz : 3000 ≤ sizeLine := by rw [sizeLine_eq]; decide
  simp only [W_numbers_of, N_numbers_of, wSeq, wAsg, wCall, wCons, wNil, wVar, wC, wBin, wRet, wIfS, wTst, wGn, wPar, wPar3, wTup, wNeg, wCB, wNext, wNotT, wAndT, wOrT, wTru, wIf, wDrop, oAdd, oSub, oMul, oDiv, oMod, oPow, oI, oI0, oIB, oLt, oLe, oGt, oGe, oAt, oIx, oEq, oNe, oEqK, cAbs, cInt, cLen, wBrk, wCnt, wIsi, wAndV, wOrV, wNotV, D.ty, Ty.sub, D.truth, oIsK, D.isN, wRetN, wGsub, wGet2, D.key, wGcons, wGnil, wGtup, wTupL, wNew, wLst, wDNew, wYes, wIterT, wIter, wRg1, wRg2, wEnum, wFor, wLc, wDc, wCat, wKeys, wPop, wReverse, wAppend, wEmp, wDictP, wSortI, wSortD, wLrg, wCallK, start3, List.map_cons, List.map_nil, List.cons_append, List.nil_append, List.getElem?_cons_zero, List.getElem?_cons_succ, List.set_cons_zero, List.set_cons_succ, List.length_cons, List.length_nil, List.replicate_succ, List.replicate_zero, Option.bind_some, Bool.true_xor, Bool.false_xor, Bool.xor_false, Bool.not_true, Bool.not_false, if_true, if_false, Bool.false_eq_true, wipeE, at0, at1]
  refine dc_inv (fun L acc M' => M' = M ∧ ∃ k, k ≤ xs.length ∧ L = (enD 0 xs).drop k ∧ acc = numD lo (xs.take k)) (fun _ _ _ _ => trivial) ?_ ?_ _ _ _ ⟨rfl, 0, Nat.zero_le _, by simp, by simp [numD]⟩
  · rintro acc M' ⟨rfl, k, hk, hL, rfl⟩
    have : xs.length ≤ k := by
      have := congrArg List.length hL
      rw [List.length_nil, List.length_drop, enD_len] at this
      omega
    rw [List.take_of_length_le this]
    exact ret_dict (List.prefix_append _ _) wf (Nat.le_refl _) (by rw [List.getElem?_append_right (Nat.le_refl _), Nat.sub_self]; rfl) (nls_wfK _ hn) h
  · rintro d L acc M' Q ⟨rfl, k, hk, hL, rfl⟩ hQ
    have hkl : k < xs.length := by
      have := congrArg List.length hL
      rw [List.length_cons, List.length_drop, enD_len] at this
      omega
    have hd : (enD 0 xs)[k]? = some d := by
      have := congrArg (fun l => l[0]?) hL
      simp only [List.getElem?_cons_zero, List.getElem?_drop, Nat.add_zero] at this
      exact this.symm
    have hL2 : L = (enD 0 xs).drop (k + 1) := by
      have := congrArg List.tail hL
      rw [List.tail_cons, List.tail_drop] at this
      exact this
    obtain ⟨x, e1, rfl⟩ := enD_get hd
    simp only [wSeq, wAsg, wCall, wCons, wNil, wVar, wC, wBin, wRet, wIfS, wTst, wGn, wPar, wPar3, wTup, wNeg, wCB, wNext, wNotT, wAndT, wOrT, wTru, wIf, wDrop, oAdd, oSub, oMul, oDiv, oMod, oPow, oI, oI0, oIB, oLt, oLe, oGt, oGe, oAt, oIx, oEq, oNe, oEqK, cAbs, cInt, cLen, wBrk, wCnt, wIsi, wAndV, wOrV, wNotV, D.ty, Ty.sub, D.truth, oIsK, D.isN, wRetN, wGsub, wGet2, D.key, wGcons, wGnil, wGtup, wTupL, wNew, wLst, wDNew, wYes, wIterT, wIter, wRg1, wRg2, wEnum, wFor, wLc, wDc, wCat, wKeys, wPop, wReverse, wAppend, wEmp, wDictP, wSortI, wSortD, wLrg, wCallK, start3, List.map_cons, List.map_nil, List.cons_append, List.nil_append, List.getElem?_cons_zero, List.getElem?_cons_succ, List.set_cons_zero, List.set_cons_succ, List.length_cons, List.length_nil, List.replicate_succ, List.replicate_zero, Option.bind_some, Bool.true_xor, Bool.false_xor, Bool.xor_false, Bool.not_true, Bool.not_false, if_true, if_false, Bool.false_eq_true, wipeE, at0, at1]
    have hnk : (Sum.inl (lo + ((0 + k : Nat) : Int)) : Key) ∉ (numD lo (xs.take k)).map (·.1) := fun z => by
      have := (numD_keys _ _ _).mp z
      rw [List.length_take] at this
      omega
    refine ⟨trivial, trivial, by rw [numD_len, List.length_take]; omega, hQ _ _ ⟨rfl, k + 1, hkl, hL2, ?_⟩⟩
    rw [putD_new hnk, List.take_add_one, e1]
    show _ = numD lo (xs.take k ++ [x])
    rw [numD_snoc, List.length_take]
    congr 5
    omega
theorem pairsD_map {β : Type} (g : β → Key × D) : ∀ l : List β, pairsD (l.map fun x => .tup [kD (g x).1, (g x).2]) = some (l.map g)
  | [] => rfl
  | x :: r => by
    rw [List.map_cons]
    have e : R3.pairD (.tup [kD (g x).1, (g x).2]) = some (g x) := by
      unfold R3.pairD
      cases hk : (g x).1 with
      | inl i =>
        show some (Sum.inl i, (g x).2) = some (g x)
        rw [← hk]
      | inr i =>
        show some (Sum.inr i, (g x).2) = some (g x)
        rw [← hk]
    unfold pairsD
    rw [e, pairsD_map g r]
    rfl
theorem merge_nd {κ α : Type} [DecidableEq κ] : ∀ (more m : List (κ × α)), ((m ++ more).map (·.1)).Nodup → mergeD m more = m ++ more
  | [], m, _ => by rw [List.append_nil]; rfl
  | (k, v) :: r, m, h => by
    have e : k ∉ m.map (·.1) := fun z => by
      rw [List.map_append, List.nodup_append] at h
      exact h.2.2 k z k (by simp) rfl
    show mergeD (putD m k v) r = _
    rw [putD_new e, merge_nd r (m ++ [(k, v)]) (by rw [List.append_assoc]; exact h), List.append_assoc]
    rfl
theorem P__law_numbers : ∀ ds M R, wfM M.length M → S_numbers ds M R → W__law_numbers (ends3 M.length R) (start3 N__law_numbers ds) M := by
  rintro _ M R wf ⟨lo, xs, rfl, hx, hn, h⟩
  have hz : 3000 ≤ sizeLine := by rw [sizeLine_eq]; decide
  simp only [W__law_numbers, N__law_numbers, wSeq, wAsg, wCall, wCons, wNil, wVar, wC, wBin, wRet, wIfS, wTst, wGn, wPar, wPar3, wTup, wNeg, wCB, wNext, wNotT, wAndT, wOrT, wTru, wIf, wDrop, oAdd, oSub, oMul, oDiv, oMod, oPow, oI, oI0, oIB, oLt, oLe, oGt, oGe, oAt, oIx, oEq, oNe, oEqK, cAbs, cInt, cLen, wBrk, wCnt, wIsi, wAndV, wOrV, wNotV, D.ty, Ty.sub, D.truth, oIsK, D.isN, wRetN, wGsub, wGet2, D.key, wGcons, wGnil, wGtup, wTupL, wNew, wLst, wDNew, wYes, wIterT, wIter, wRg1, wRg2, wEnum, wFor, wLc, wDc, wCat, wKeys, wPop, wReverse, wAppend, wEmp, wDictP, wSortI, wSortD, wLrg, wCallK, start3, List.map_cons, List.map_nil, List.cons_append, List.nil_append, List.getElem?_cons_zero, List.getElem?_cons_succ, List.set_cons_zero, List.set_cons_succ, List.length_cons, List.length_nil, List.replicate_succ, List.replicate_zero, Option.bind_some, Bool.true_xor, Bool.false_xor, Bool.xor_false, Bool.not_true, Bool.not_false, if_true, if_false, Bool.false_eq_true, wipeE, at0, at1]
  refine ⟨⟨by omega, by omega⟩, ?_⟩
  rw [Int.toNat_natCast]
  refine lc_inv (fun L acc M' => M' = M ∧ ∃ k, k ≤ xs.length ∧ L = (rgD 0 xs.length).drop k ∧ acc = (numD lo (xs.take k)).map fun p => .tup [kD p.1, p.2]) (fun _ _ _ _ => trivial) ?_ ?_ _ _ _ ⟨rfl, 0, Nat.zero_le _, by simp, by simp [numD]⟩
  · rintro acc M' ⟨rfl, k, hk, hL, rfl⟩
    have : xs.length ≤ k := by
      have := congrArg List.length hL
      rw [List.length_nil, List.length_drop, rgD_length] at this
      omega
    rw [List.take_of_length_le this, pairsD_map (fun p : Key × D => p), List.map_id']
    simp only [wSeq, wAsg, wCall, wCons, wNil, wVar, wC, wBin, wRet, wIfS, wTst, wGn, wPar, wPar3, wTup, wNeg, wCB, wNext, wNotT, wAndT, wOrT, wTru, wIf, wDrop, oAdd, oSub, oMul, oDiv, oMod, oPow, oI, oI0, oIB, oLt, oLe, oGt, oGe, oAt, oIx, oEq, oNe, oEqK, cAbs, cInt, cLen, wBrk, wCnt, wIsi, wAndV, wOrV, wNotV, D.ty, Ty.sub, D.truth, oIsK, D.isN, wRetN, wGsub, wGet2, D.key, wGcons, wGnil, wGtup, wTupL, wNew, wLst, wDNew, wYes, wIterT, wIter, wRg1, wRg2, wEnum, wFor, wLc, wDc, wCat, wKeys, wPop, wReverse, wAppend, wEmp, wDictP, wSortI, wSortD, wLrg, wCallK, start3, List.map_cons, List.map_nil, List.cons_append, List.nil_append, List.getElem?_cons_zero, List.getElem?_cons_succ, List.set_cons_zero, List.set_cons_succ, List.length_cons, List.length_nil, List.replicate_succ, List.replicate_zero, Option.bind_some, Bool.true_xor, Bool.false_xor, Bool.xor_false, Bool.not_true, Bool.not_false, if_true, if_false, Bool.false_eq_true, wipeE]
    rw [merge_nd _ _ (by rw [List.nil_append]; exact numD_nd _ _), List.nil_append]
    exact ret_dict (List.prefix_append _ _) wf (Nat.le_refl _) (by rw [List.getElem?_append_right (Nat.le_refl _), Nat.sub_self]; rfl) (nls_wfK _ hn) h
  · rintro d L acc M' Q ⟨rfl, k, hk, hL, rfl⟩ hQ
    have hkl : k < xs.length := by
      have := congrArg List.length hL
      rw [List.length_cons, List.length_drop, rgD_length] at this
      omega
    have hd : (rgD 0 xs.length)[k]? = some d := by
      have := congrArg (fun l => l[0]?) hL
      simp only [List.getElem?_cons_zero, List.getElem?_drop, Nat.add_zero] at this
      exact this.symm
    have hL2 : L = (rgD 0 xs.length).drop (k + 1) := by
      have := congrArg List.tail hL
      rw [List.tail_cons, List.tail_drop] at this
      exact this
    unfold rgD at hd
    rw [List.getElem?_map, List.getElem?_range hkl] at hd
    have hd : D.int (0 + (k : Int)) = d := Option.some.inj hd
    subst hd
    obtain ⟨x, e1⟩ : ∃ x, xs[k]? = some x := ⟨_, List.getElem?_eq_getElem hkl⟩
    have e2 : atI xs (0 + (k : Int)) = some x := by rw [Int.zero_add]; exact atI_ge e1
    simp only [wSeq, wAsg, wCall, wCons, wNil, wVar, wC, wBin, wRet, wIfS, wTst, wGn, wPar, wPar3, wTup, wNeg, wCB, wNext, wNotT, wAndT, wOrT, wTru, wIf, wDrop, oAdd, oSub, oMul, oDiv, oMod, oPow, oI, oI0, oIB, oLt, oLe, oGt, oGe, oAt, oIx, oEq, oNe, oEqK, cAbs, cInt, cLen, wBrk, wCnt, wIsi, wAndV, wOrV, wNotV, D.ty, Ty.sub, D.truth, oIsK, D.isN, wRetN, wGsub, wGet2, D.key, wGcons, wGnil, wGtup, wTupL, wNew, wLst, wDNew, wYes, wIterT, wIter, wRg1, wRg2, wEnum, wFor, wLc, wDc, wCat, wKeys, wPop, wReverse, wAppend, wEmp, wDictP, wSortI, wSortD, wLrg, wCallK, start3, List.map_cons, List.map_nil, List.cons_append, List.nil_append, List.getElem?_cons_zero, List.getElem?_cons_succ, List.set_cons_zero, List.set_cons_succ, List.length_cons, List.length_nil, List.replicate_succ, List.replicate_zero, Option.bind_some, Bool.true_xor, Bool.false_xor, Bool.xor_false, Bool.not_true, Bool.not_false, if_true, if_false, Bool.false_eq_true, wipeE, at0, at1, e2]
    refine ⟨by omega, by rw [List.length_map, numD_len, List.length_take]; omega, hQ _ _ ⟨rfl, k + 1, hkl, hL2, ?_⟩⟩
    rw [List.take_add_one, e1]
    show _ = (numD lo (xs.take k ++ [x])).map _
    rw [numD_snoc, List.map_append, List.length_take, Nat.min_eq_left hk, Int.zero_add]
    rfl
/-- numD of a trimmed row tells its function -/
theorem rep_num {α : Type} {enc : α → D} {z : α} {f : Int → α} {lo : Int} {n : Nat} (h0 : -1000 ≤ lo) (h1 : lo + n ≤ 1001) (hn : n ≤ 1000) (ho : ∀ p, (p < lo ∨ lo + (n : Int) ≤ p) → f p = z) : Rep enc z f (numD lo ((List.range n).map fun (k : Nat) => enc (f (lo + (k : Int))))) := by
  have hl : ((List.range n).map fun (k : Nat) => enc (f (lo + (k : Int)))).length = n := by simp
  refine ⟨fun p hp => ?_, numD_nd _ _, fun i hi => ?_, fun i hi => ?_, by rw [numD_len, hl]; exact hn⟩
  · obtain ⟨k, a1, a2, a3⟩ := numD_key _ _ _ hp
    rw [hl] at a1
    rw [List.getElem?_map, List.getElem?_range a1] at a3
    exact ⟨_, a2, (Option.some.inj a3).symm⟩
  · refine ho i ?_
    rw [numD_keys, hl] at hi
    omega
  · rw [numD_keys, hl] at hi
    omega
end K75
set_option Elab.async false
set_option linter.all false
set_option maxRecDepth 100000
set_option maxHeartbeats 400000
namespace K75
open PySem PySem.Spec PyProof.Rows L2 Gx R3

/-! ### sums of taps -/
/-- a 1260th of a whole number of at most B -/
def OkV (B : Nat) (q : Rat) : Prop := ∃ z : Int, z.natAbs ≤ B ∧ q = Rat.divInt z 1260
theorem OkV.mono {B C : Nat} {q : Rat} (h : OkV B q) (hc : B ≤ C) : OkV C q := let ⟨z, h1, h2⟩ := h; ⟨z, Nat.le_trans h1 hc, h2⟩
theorem OkV.zero (B : Nat) : OkV B 0 := ⟨0, Nat.zero_le _, by rw [Rat.zero_divInt]⟩
theorem OkV.add {B C : Nat} {p q : Rat} (h : OkV B p) (g : OkV C q) : OkV (B + C) (p + q) := by
  obtain ⟨z, h1, rfl⟩ := h
  obtain ⟨w, g1, rfl⟩ := g
  refine ⟨z + w, by omega, ?_⟩
  rw [Rat.divInt_add_divInt _ _ (by decide) (by decide), ← Int.add_mul]
  exact Rat.divInt_mul_right (by decide)
theorem OkV.sub {B C : Nat} {p q : Rat} (h : OkV B p) (g : OkV C q) : OkV (B + C) (p - q) := by
  obtain ⟨z, h1, rfl⟩ := h
  obtain ⟨w, g1, rfl⟩ := g
  refine ⟨z - w, by omega, ?_⟩
  rw [Rat.divInt_sub_divInt _ _ (by decide) (by decide), ← Int.sub_mul]
  exact Rat.divInt_mul_right (by decide)
theorem OkV.den {B : Nat} {q : Rat} (h : OkV B q) : 0 < (q.den : Int) ∧ (q.den : Int) < 2 ^ 30 ∧ q.num.natAbs ≤ B := by
  obtain ⟨z, h1, rfl⟩ := h
  rw [Rat.num_divInt, Rat.den_divInt, if_neg (by decide)]
  have hg : 0 < Int.gcd 1260 z := Int.gcd_pos_of_ne_zero_left _ (by decide)
  have hd : Int.gcd 1260 z ∣ 1260 := Int.gcd_dvd_natAbs_left 1260 z
  have e : (1260 : Int).natAbs = 1260 := rfl
  rw [e]
  have h2 : 1260 / Int.gcd 1260 z ≤ 1260 := Nat.div_le_self _ _
  have h3 : 0 < 1260 / Int.gcd 1260 z := Nat.div_pos (Nat.le_of_dvd (by decide) hd) hg
  refine ⟨by omega, by omega, ?_⟩
  have : Int.sign 1260 = 1 := rfl
  rw [this, Int.one_mul, Int.natAbs_ediv_of_dvd]
  · exact Nat.le_trans (Nat.div_le_self _ _) h1
  · exact Int.gcd_dvd_right ..
/-- a tap -/
def OkT (c : Rat) : Prop := c.den ∣ 1260 ∧ c.num.natAbs ≤ 16
theorem tap_mul (c : Rat) (x : Int) : Rat.divInt (c.num * x) c.den = c * (x : Rat) := by
  conv => rhs; rw [← Rat.num_divInt_den c]
  have e : ((x : Int) : Rat) = Rat.divInt x 1 := by
    have := Rat.num_divInt_den (x : Rat)
    rw [Rat.num_intCast, Rat.den_intCast] at this
    exact this.symm
  rw [e, Rat.divInt_mul_divInt, Int.mul_one]
theorem OkT.mul {c : Rat} (h : OkT c) {x : Int} (hx : x.natAbs ≤ 2 ^ 88) : OkV (2 ^ 104) (c * (x : Rat)) := by
  obtain ⟨⟨k, hk⟩, h2⟩ := h
  refine ⟨c.num * x * k, ?_, ?_⟩
  · rw [Int.natAbs_mul, Int.natAbs_mul]
    have hk2 : k ≤ 1260 := Nat.le_of_dvd (by decide) ⟨c.den, by rw [hk, Nat.mul_comm]⟩
    have h3 := Nat.mul_le_mul h2 hx
    have h4 := Nat.mul_le_mul h3 (show (k : Int).natAbs ≤ 1260 by omega)
    exact Nat.le_trans h4 (by decide)
  · rw [← tap_mul]
    have hk0 : (k : Int) ≠ 0 := by
      intro z
      have : k = 0 := by omega
      rw [this] at hk
      simp at hk
    have e : ((1260 : Int)) = (c.den : Int) * (k : Int) := by
      have := congrArg (Nat.cast : Nat → Int) hk
      simpa using this
    rw [e]
    exact (Rat.divInt_mul_right hk0).symm
end K75
set_option Elab.async false
set_option linter.all false
set_option maxRecDepth 100000
set_option maxHeartbeats 400000
namespace K75
open PySem PySem.Spec PyProof.Rows L2 Gx R3

def updF {α : Type} (g : Int → α) (p : Int) (v : α) : Int → α := fun i => if i = p then v else g i
/-- what a tap adds -/
def addRow (c : Rat) (sh : Int) : Int → List Int → (Int → Rat) → Int → Rat
  | _, [], g => g
  | lo, x :: r, g => addRow c sh (lo + 1) r (updF g (lo + sh) (g (lo + sh) + c * (x : Rat)))
def sumF (lo : Int) (xs : List Int) : List (Int × Rat) → (Int → Rat) → Int → Rat
  | [], g => g
  | t :: r, g => sumF lo xs r (addRow t.2 t.1 lo xs g)
def tapD (t : Int × Rat) : D := .tup [.int t.1, qD t.2]
def sD (s : List (Int × Rat)) : D := .tup (s.map tapD)
def rowI (lo : Int) (xs : List Int) : D := .tup [.int lo, .tup (xs.map .int)]
structure RowOk (lo : Int) (xs : List Int) : Prop where
  l0 : -50 ≤ lo
  l1 : lo ≤ 50
  len : xs.length ≤ 20
  bd : ∀ x ∈ xs, x.natAbs ≤ 2 ^ 88
structure SumOk (s : List (Int × Rat)) : Prop where
  len : s.length ≤ 8
  sh : ∀ t ∈ s, -50 ≤ t.1 ∧ t.1 ≤ 50
  tap : ∀ t ∈ s, OkT t.2
theorem upd_self {α : Type} (g : Int → α) (p : Int) : updF g p (g p) = g := by
  funext i
  unfold updF
  split
  · rename_i h; rw [h]
  · rfl
theorem Rep.put {α : Type} {enc : α → D} {z : α} {g : Int → α} {m : List (Key × D)} (r : Rep enc z g m) {p : Int} (v : α) (hp : -1000 ≤ p ∧ p ≤ 1000) (hl : m.length < 1000) : Rep enc z (updF g p v) (putD m (.inl p) (enc v)) := by
  have hk : ∀ k : Key, k ∈ (putD m (.inl p) (enc v)).map (·.1) ↔ k = .inl p ∨ k ∈ m.map (·.1) := fun k => by
    unfold putD
    split
    · rename_i h
      obtain ⟨q, h1, h2⟩ := List.any_eq_true.mp h
      have h3 : (m.map fun kv => if kv.1 = Sum.inl p then (kv.1, enc v) else kv).map (·.1) = m.map (·.1) := by
        rw [List.map_map]
        refine List.map_congr_left fun q hq => ?_
        simp only [Function.comp]
        split <;> rfl
      rw [h3]
      refine ⟨.inr, fun h => h.elim (fun e => ?_) fun z => z⟩
      rw [e, ← of_decide_eq_true h2]
      exact List.mem_map_of_mem h1
    · rw [List.map_append, List.mem_append]
      simp only [List.map_cons, List.map_nil, List.mem_singleton]
      exact Or.comm
  refine ⟨fun q hq => ?_, ?_, fun i hi => ?_, fun i hi => ?_, ?_⟩
  · unfold putD at hq
    split at hq
    · obtain ⟨q', h1, h2⟩ := List.mem_map.mp hq
      obtain ⟨i, e1, e2⟩ := r.key q' h1
      by_cases e : q'.1 = Sum.inl p
      · rw [if_pos e] at h2
        rw [e1] at e
        cases e
        subst h2
        exact ⟨_, e1, by unfold updF; rw [if_pos rfl]⟩
      · rw [if_neg e] at h2
        subst h2
        refine ⟨i, e1, ?_⟩
        unfold updF
        rw [if_neg (fun z => e (by rw [e1, z]))]
        exact e2
    · rename_i hn
      rcases List.mem_append.mp hq with h | h
      · obtain ⟨i, e1, e2⟩ := r.key q h
        refine ⟨i, e1, ?_⟩
        unfold updF
        rw [if_neg]
        · exact e2
        · intro z
          exact hn (List.any_eq_true.mpr ⟨q, h, decide_eq_true (by rw [e1, z])⟩)
      · rw [List.mem_singleton.mp h]
        exact ⟨p, rfl, by unfold updF; rw [if_pos rfl]⟩
  · unfold putD
    split
    · have h3 : (m.map fun kv => if kv.1 = Sum.inl p then (kv.1, enc v) else kv).map (·.1) = m.map (·.1) := by
        rw [List.map_map]
        refine List.map_congr_left fun q hq => ?_
        simp only [Function.comp]
        split <;> rfl
      rw [h3]
      exact r.nd
    · rename_i hn
      rw [List.map_append]
      refine List.nodup_append.mpr ⟨r.nd, by simp, fun a ha b hb e => ?_⟩
      have hb : b = Sum.inl p := by simpa using hb
      subst hb e
      obtain ⟨q, h1, h2⟩ := List.mem_map.mp ha
      exact hn (List.any_eq_true.mpr ⟨q, h1, decide_eq_true h2⟩)
  · have h1 := fun z => hi ((hk _).mpr z)
    unfold updF
    rw [if_neg (fun z => h1 (.inl (by rw [z])))]
    exact r.out i fun z => h1 (.inr z)
  · rcases (hk _).mp hi with h | h
    · cases h
      exact hp
    · exact r.bd i h
  · unfold putD
    split
    · rw [List.length_map]; omega
    · rw [List.length_append]; simp only [List.length_cons, List.length_nil]; omega
theorem putD_len {κ α : Type} [DecidableEq κ] (m : List (κ × α)) (k : κ) (v : α) : (putD m k v).length ≤ m.length + 1 := by
  unfold putD
  split
  · rw [List.length_map]; omega
  · rw [List.length_append]; simp only [List.length_cons, List.length_nil]; omega
/-! ### done -/
def S_done : SP3 := fun ds M R => ∃ (s : List (Int × Rat)) (lo : Int) (xs : List Int), ds = [sD s, rowI lo xs] ∧ SumOk s ∧ RowOk lo xs ∧ ∀ lo' n, Trim 0 (sumF lo xs s fun _ => 0) lo' n → n ≤ 2001 → -1000 ≤ lo' → lo' + n ≤ 1001 → R (rowD qD (sumF lo xs s fun _ => 0) lo' n) M
theorem P_done : ∀ ds M R, wfM M.length M → S_done ds M R → W_done (S_pm (· + ·)) (S_row1 qD (0 : Rat)) (qD 0) (ends3 M.length R) (start3 N_done ds) M := by
  rintro _ M R wf ⟨s, lo, xs, rfl, hs, hx, h⟩
  have hk : ∀ (m : List (Key × D)), (M ++ [Ob.dK m])[M.length]? = some (.dK m) := fun m => by rw [List.getElem?_append_right (Nat.le_refl _), Nat.sub_self]; rfl
  simp only [W_done, N_done, wSeq, wAsg, wCall, wCons, wNil, wVar, wC, wBin, wRet, wIfS, wTst, wGn, wPar, wPar3, wTup, wNeg, wCB, wNext, wNotT, wAndT, wOrT, wTru, wIf, wDrop, oAdd, oSub, oMul, oDiv, oMod, oPow, oI, oI0, oIB, oLt, oLe, oGt, oGe, oAt, oIx, oEq, oNe, oEqK, cAbs, cInt, cLen, wBrk, wCnt, wIsi, wAndV, wOrV, wNotV, D.ty, Ty.sub, D.truth, oIsK, D.isN, wRetN, wGsub, wGet2, D.key, wGcons, wGnil, wGtup, wTupL, wNew, wLst, wDNew, wYes, wIterT, wIter, wRg1, wRg2, wEnum, wFor, wLc, wDc, wCat, wKeys, wPop, wReverse, wAppend, wEmp, wDictP, wSortI, wSortD, wLrg, wCallK, start3, List.map_cons, List.map_nil, List.cons_append, List.nil_append, List.getElem?_cons_zero, List.getElem?_cons_succ, List.set_cons_zero, List.set_cons_succ, List.length_cons, List.length_nil, List.replicate_succ, List.replicate_zero, Option.bind_some, Bool.true_xor, Bool.false_xor, Bool.xor_false, Bool.not_true, Bool.not_false, if_true, if_false, Bool.false_eq_true, wipeE, sD]
  refine for_inv (fun L env M' => ∃ (s' : List (Int × Rat)) (m : List (Key × D)) (g : Int → Rat) (e3 e4 e5 e6 e7 e8 : Option D), L = s'.map tapD ∧ (∀ t ∈ s', t ∈ s) ∧ s'.length ≤ 8 ∧ env = [some (sD s), some (rowI lo xs), some (.loc M.length), e3, e4, e5, e6, e7, e8] ∧ M' = M ++ [.dK m] ∧ Rep qD 0 g m ∧ m.length ≤ 20 * (8 - s'.length) ∧ (∀ p, OkV (2 ^ 104 * (20 * (8 - s'.length))) (g p)) ∧ sumF lo xs s' g = sumF lo xs s fun _ => 0)
    (fun _ _ _ _ => trivial) ?_ ?_ _ _ _ ⟨s, [], fun _ => 0, none, none, none, none, none, none, rfl, fun t ht => ht, hs.len, rfl, rfl, ⟨fun p hp => (by cases hp), List.nodup_nil, fun _ _ => rfl, fun i hi => (by cases hi), Nat.zero_le _⟩, Nat.zero_le _, fun p => OkV.zero _, rfl⟩
  · rintro env M' ⟨s', m, g, e3, e4, e5, e6, e7, e8, hL, _, hl, rfl, rfl, hr, hm, hv, hg⟩
    have : s' = [] := by cases s' with
      | nil => rfl
      | cons a b => cases hL
    subst this
    have hg : g = sumF lo xs s fun _ => 0 := hg
    simp only [wSeq, wAsg, wCall, wCons, wNil, wVar, wC, wBin, wRet, wIfS, wTst, wGn, wPar, wPar3, wTup, wNeg, wCB, wNext, wNotT, wAndT, wOrT, wTru, wIf, wDrop, oAdd, oSub, oMul, oDiv, oMod, oPow, oI, oI0, oIB, oLt, oLe, oGt, oGe, oAt, oIx, oEq, oNe, oEqK, cAbs, cInt, cLen, wBrk, wCnt, wIsi, wAndV, wOrV, wNotV, D.ty, Ty.sub, D.truth, oIsK, D.isN, wRetN, wGsub, wGet2, D.key, wGcons, wGnil, wGtup, wTupL, wNew, wLst, wDNew, wYes, wIterT, wIter, wRg1, wRg2, wEnum, wFor, wLc, wDc, wCat, wKeys, wPop, wReverse, wAppend, wEmp, wDictP, wSortI, wSortD, wLrg, wCallK, start3, List.map_cons, List.map_nil, List.cons_append, List.nil_append, List.getElem?_cons_zero, List.getElem?_cons_succ, List.set_cons_zero, List.set_cons_succ, List.length_cons, List.length_nil, List.replicate_succ, List.replicate_zero, Option.bind_some, Bool.true_xor, Bool.false_xor, Bool.xor_false, Bool.not_true, Bool.not_false, if_true, if_false, Bool.false_eq_true, wipeE]
    refine ⟨M.length, m, g, rfl, hk m, hr, fun lo' n h1 h2 h3 h4 => ?_⟩
    subst hg
    exact ret_pre (List.prefix_append _ _) wf (rowD_nl enc_rat.1 _ _ _) (h lo' n h1 h2 h3 h4)
  · rintro d L env M' E' ⟨s', m, g, e3, e4, e5, e6, e7, e8, hL, hin, hl, rfl, rfl, hr, hm, hv, hg⟩ hnx hct hrt hbk
    obtain ⟨t, s'', rfl⟩ : ∃ t s'', s' = t :: s'' := by cases s' with
      | nil => cases hL
      | cons a b => exact ⟨a, b, rfl⟩
    rw [List.map_cons] at hL
    injection hL with hd hL
    subst hd hL
    obtain ⟨sh, c⟩ := t
    have htS := hin _ List.mem_cons_self
    have hsh := hs.sh _ htS
    have htap := hs.tap _ htS
    simp only [List.length_cons] at hl hm hv
    simp only at hsh htap
    simp only [tapD, qD, rowI, wSeq, wAsg, wCall, wCons, wNil, wVar, wC, wBin, wRet, wIfS, wTst, wGn, wPar, wPar3, wTup, wNeg, wCB, wNext, wNotT, wAndT, wOrT, wTru, wIf, wDrop, oAdd, oSub, oMul, oDiv, oMod, oPow, oI, oI0, oIB, oLt, oLe, oGt, oGe, oAt, oIx, oEq, oNe, oEqK, cAbs, cInt, cLen, wBrk, wCnt, wIsi, wAndV, wOrV, wNotV, D.ty, Ty.sub, D.truth, oIsK, D.isN, wRetN, wGsub, wGet2, D.key, wGcons, wGnil, wGtup, wTupL, wNew, wLst, wDNew, wYes, wIterT, wIter, wRg1, wRg2, wEnum, wFor, wLc, wDc, wCat, wKeys, wPop, wReverse, wAppend, wEmp, wDictP, wSortI, wSortD, wLrg, wCallK, start3, List.map_cons, List.map_nil, List.cons_append, List.nil_append, List.getElem?_cons_zero, List.getElem?_cons_succ, List.set_cons_zero, List.set_cons_succ, List.length_cons, List.length_nil, List.replicate_succ, List.replicate_zero, Option.bind_some, Bool.true_xor, Bool.false_xor, Bool.xor_false, Bool.not_true, Bool.not_false, if_true, if_false, Bool.false_eq_true, wipeE, at0, at1]
    refine ⟨trivial, trivial, trivial, trivial, ?_⟩
    refine for_inv (fun L env M' => ∃ (k : Nat) (m : List (Key × D)) (g' : Int → Rat) (e6 e7 e8 : Option D), k ≤ xs.length ∧ L = (enD 0 (xs.map D.int)).drop k ∧ env = [some (sD s), some (rowI lo xs), some (.loc M.length), some (.int sh), some (.int c.num), some (.int c.den), e6, e7, e8] ∧ M' = M ++ [.dK m] ∧ Rep qD 0 g' m ∧ m.length ≤ 20 * (8 - (s''.length + 1)) + k ∧ (∀ p, OkV (2 ^ 104 * (20 * (8 - (s''.length + 1)) + k)) (g' p)) ∧ addRow c sh (lo + k) (xs.drop k) g' = addRow c sh lo xs g)
      (fun _ _ _ _ => trivial) ?_ ?_ _ _ _ ⟨0, m, g, e6, e7, e8, Nat.zero_le _, by simp, rfl, rfl, hr, hm, hv, by simp⟩
    · rintro env M' ⟨k, m', g', e6, e7, e8, hk', hL, rfl, rfl, hr', hm', hv', hg'⟩
      have hkl : xs.length ≤ k := by
        have := congrArg List.length hL
        rw [List.length_nil, List.length_drop, enD_len, List.length_map] at this
        omega
      rw [List.drop_of_length_le hkl] at hg'
      have hg' : g' = addRow c sh lo xs g := hg'
      have hxl := hx.len
      refine hnx _ _ ⟨s'', m', g', _, _, _, _, _, _, rfl, fun t ht => hin t (List.mem_cons_of_mem _ ht), by omega, rfl, rfl, hr', by omega, fun p => (hv' p).mono (Nat.mul_le_mul_left _ (by omega)), ?_⟩
      rw [hg', ← hg]
      rfl
    · rintro d L env M' E2 ⟨k, m', g', e6, e7, e8, hk', hL, rfl, rfl, hr', hm', hv', hg'⟩ hnx2 hct2 hrt2 hbk2
      have hkl : k < xs.length := by
        have := congrArg List.length hL
        rw [List.length_cons, List.length_drop, enD_len, List.length_map] at this
        omega
      have hd : (enD 0 (xs.map D.int))[k]? = some d := by
        have := congrArg (fun l => l[0]?) hL
        simp only [List.getElem?_cons_zero, List.getElem?_drop, Nat.add_zero] at this
        exact this.symm
      have hL2 : L = (enD 0 (xs.map D.int)).drop (k + 1) := by
        have := congrArg List.tail hL
        rw [List.tail_cons, List.tail_drop] at this
        exact this
      obtain ⟨y, e1, rfl⟩ := enD_get hd
      rw [List.getElem?_map, List.getElem?_eq_getElem hkl] at e1
      have e1 : D.int xs[k] = y := Option.some.inj e1
      subst e1
      have hxl := hx.len
      have hb := hx.bd xs[k] (List.getElem_mem hkl)
      have hl0 := hx.l0
      have hl1 := hx.l1
      have hdrop : xs.drop k = xs[k] :: xs.drop (k + 1) := List.drop_eq_getElem_cons hkl
      rw [hdrop] at hg'
      have hg' : addRow c sh (lo + k + 1) (xs.drop (k + 1)) (updF g' (lo + k + sh) (g' (lo + k + sh) + c * (xs[k] : Rat))) = addRow c sh lo xs g := hg'
      have hcast : lo + (k : Int) + 1 = lo + ((k + 1 : Nat) : Int) := by omega
      rw [hcast] at hg'
      simp only [wSeq, wAsg, wCall, wCons, wNil, wVar, wC, wBin, wRet, wIfS, wTst, wGn, wPar, wPar3, wTup, wNeg, wCB, wNext, wNotT, wAndT, wOrT, wTru, wIf, wDrop, oAdd, oSub, oMul, oDiv, oMod, oPow, oI, oI0, oIB, oLt, oLe, oGt, oGe, oAt, oIx, oEq, oNe, oEqK, cAbs, cInt, cLen, wBrk, wCnt, wIsi, wAndV, wOrV, wNotV, D.ty, Ty.sub, D.truth, oIsK, D.isN, wRetN, wGsub, wGet2, D.key, wGcons, wGnil, wGtup, wTupL, wNew, wLst, wDNew, wYes, wIterT, wIter, wRg1, wRg2, wEnum, wFor, wLc, wDc, wCat, wKeys, wPop, wReverse, wAppend, wEmp, wDictP, wSortI, wSortD, wLrg, wCallK, start3, List.map_cons, List.map_nil, List.cons_append, List.nil_append, List.getElem?_cons_zero, List.getElem?_cons_succ, List.set_cons_zero, List.set_cons_succ, List.length_cons, List.length_nil, List.replicate_succ, List.replicate_zero, Option.bind_some, Bool.true_xor, Bool.false_xor, Bool.xor_false, Bool.not_true, Bool.not_false, if_true, if_false, Bool.false_eq_true, wipeE, rowI, at0, at1, decide_eq_true_eq, Nat.zero_add]
      refine ⟨trivial, trivial, ?_⟩
      have hkt : tblAt (M ++ [Ob.dK m']) M.length = some m' := by
        unfold tblAt
        rw [hk]
        rfl
      by_cases h0 : xs[k] = 0
      · rw [decide_eq_true h0, Bool.not_true, if_neg (by decide)]
        refine hnx2 _ _ ⟨k + 1, m', g', _, _, _, hkl, hL2, rfl, rfl, hr', by omega, fun p => (hv' p).mono (Nat.mul_le_mul_left _ (by omega)), ?_⟩
        rw [h0, Rat.intCast_zero, Rat.mul_zero, Rat.add_zero, upd_self] at hg'
        exact hg'
      · rw [decide_eq_false h0, Bool.not_false, if_pos rfl]
        simp only [hkt]
        have hp : -1000 ≤ lo + (k : Int) + sh ∧ lo + (k : Int) + sh ≤ 1000 := by omega
        have hgd : (valD m' (Sum.inl (lo + (k : Int) + sh))).getD (D.tup [D.int (Rat.num 0), D.int ((Rat.den 0 : Nat) : Int)]) = qD (g' (lo + k + sh)) := hr'.getD _
        rw [hgd]
        obtain ⟨⟨kk, hkk⟩, hcn⟩ := htap
        have hcd : c.den ≤ 1260 := Nat.le_of_dvd (by decide) ⟨kk, hkk⟩
        have hcd0 := c.den_nz
        obtain ⟨d0, d1, d2⟩ := (hv' (lo + k + sh)).den
        have hB : (2 ^ 104 * (20 * (8 - (s''.length + 1)) + k)) < 2 ^ 190 := by
          have : 20 * (8 - (s''.length + 1)) + k ≤ 2 ^ 10 := by omega
          have := Nat.mul_le_mul_left (2 ^ 104) this
          omega
        have hmul : (c.num * xs[k]).natAbs < 2 ^ 190 := by
          rw [Int.natAbs_mul]
          have := Nat.mul_le_mul hcn hb
          omega
        refine ⟨mulW (by omega) (by omega), by decide, _, _, _, _, rfl, d0, d1, by omega, by omega, by omega, hmul, ?_⟩
        simp only [hk, wSeq, wAsg, wCall, wCons, wNil, wVar, wC, wBin, wRet, wIfS, wTst, wGn, wPar, wPar3, wTup, wNeg, wCB, wNext, wNotT, wAndT, wOrT, wTru, wIf, wDrop, oAdd, oSub, oMul, oDiv, oMod, oPow, oI, oI0, oIB, oLt, oLe, oGt, oGe, oAt, oIx, oEq, oNe, oEqK, cAbs, cInt, cLen, wBrk, wCnt, wIsi, wAndV, wOrV, wNotV, D.ty, Ty.sub, D.truth, oIsK, D.isN, wRetN, wGsub, wGet2, D.key, wGcons, wGnil, wGtup, wTupL, wNew, wLst, wDNew, wYes, wIterT, wIter, wRg1, wRg2, wEnum, wFor, wLc, wDc, wCat, wKeys, wPop, wReverse, wAppend, wEmp, wDictP, wSortI, wSortD, wLrg, wCallK, start3, List.map_cons, List.map_nil, List.cons_append, List.nil_append, List.getElem?_cons_zero, List.getElem?_cons_succ, List.set_cons_zero, List.set_cons_succ, List.length_cons, List.length_nil, List.replicate_succ, List.replicate_zero, Option.bind_some, Bool.true_xor, Bool.false_xor, Bool.xor_false, Bool.not_true, Bool.not_false, if_true, if_false, Bool.false_eq_true, wipeE]
        have hz : 3000 ≤ sizeLine := by rw [sizeLine_eq]; decide
        have hset : (M ++ [Ob.dK m']).set M.length (.dK (putD m' (.inl (lo + (k : Int) + sh)) (qD (Rat.divInt (g' (lo + k + sh)).num (g' (lo + k + sh)).den + Rat.divInt (c.num * xs[k]) c.den)))) = M ++ [Ob.dK (putD m' (.inl (lo + (k : Int) + sh)) (qD (g' (lo + k + sh) + c * (xs[k] : Rat))))] := by
          rw [List.set_append_right _ _ (Nat.le_refl _), Nat.sub_self, Rat.num_divInt_den, tap_mul]
          rfl
        refine ⟨by omega, ?_⟩
        rw [hset]
        refine hnx2 _ _ ⟨k + 1, _, _, _, _, _, hkl, hL2, rfl, rfl, hr'.put _ hp (by omega), ?_, fun p => ?_, hg'⟩
        · have := putD_len m' (Sum.inl (lo + (k : Int) + sh)) (qD (g' (lo + k + sh) + c * (xs[k] : Rat)))
          omega
        · unfold updF
          split
          · have := (hv' (lo + k + sh)).add (OkT.mul ⟨⟨kk, hkk⟩, hcn⟩ hb)
            exact this.mono (by rw [← Nat.mul_succ]; exact Nat.le_refl _)
          · exact (hv' p).mono (Nat.mul_le_mul_left _ (by omega))
end K75
set_option Elab.async false
set_option linter.all false
set_option maxRecDepth 100000
set_option maxHeartbeats 400000
namespace K75
open PySem PySem.Spec PyProof.Rows L2 Gx R3

/-! ### the law's own sum -/
def S__law_done : SP3 := fun ds M R => ∃ (s : List (Int × Rat)) (lo : Int) (xs : List Int), ds = [sD s, rowI lo xs] ∧ SumOk s ∧ RowOk lo xs ∧ ∀ m, Rep qD 0 (sumF lo xs s fun _ => 0) m → R (.loc M.length) (M ++ [.dK m])
theorem nls_ints : ∀ l : List Int, D.nls (l.map D.int)
  | [] => trivial
  | _ :: r => ⟨trivial, nls_ints r⟩
section
variable {M : Mem} {a b c : Ob}
theorem two0 : (M ++ [a, b])[M.length]? = some a := by rw [List.getElem?_append_right (Nat.le_refl _), Nat.sub_self]; rfl
theorem two1 : (M ++ [a, b])[M.length + 1]? = some b := by rw [List.getElem?_append_right (by omega), show M.length + 1 - M.length = 1 by omega]; rfl
theorem two_set0 : (M ++ [a, b]).set M.length c = M ++ [c, b] := by rw [List.set_append_right _ _ (Nat.le_refl _), Nat.sub_self]; rfl
theorem two_set1 : (M ++ [a, b]).set (M.length + 1) c = M ++ [a, c] := by rw [List.set_append_right _ _ (by omega), show M.length + 1 - M.length = 1 by omega]; rfl
end
def law_done_tail (S__law_fr : SP3) : WS := (wLock (wRet (wDictP (wLc [6] (wKeys keysD (wVar 2)) (wGn 6) wYes (wTup (wCons (wVar 6) (wCons (wCall S__law_fr (wCons (wBin oAt (wBin oAt (wVar 2) (wVar 6)) (wC (.int 0))) (wCons (wBin oAt (wBin oAt (wVar 2) (wVar 6)) (wC (.int 1))) wNil))) wNil)))))))
theorem lk_two {M : Mem} {m : List (Key × D)} {b : Ob} : lkAt (M ++ [Ob.lkK m, b]) M.length = some m := by
  unfold lkAt
  rw [two0]
theorem tail_ok {M : Mem} {R : D → Mem → Prop} {m : List (Key × D)} {nb : Ob} {g : Int → Rat} {x0 x1 x3 x4 x5 x6 : Option D} (wf : wfM M.length M) (r : Rep qD 0 g m) (hv : ∀ p, OkV (2 ^ 150) (g p)) (h : R (.loc M.length) (M ++ [.dK m])) :
    law_done_tail S_lowest (ends3 M.length R) [x0, x1, some (.loc M.length), x3, x4, x5, x6] (M ++ [.dK m, nb]) := by
  have hz : 3000 ≤ sizeLine := by rw [sizeLine_eq]; decide
  have ht : tblAt (M ++ [Ob.lkK m, nb]) M.length = some m := by
    unfold tblAt
    rw [two0]
    rfl
  refine ⟨M.length, m, two0, ?_⟩
  rw [two_set0]
  simp only [wSeq, wAsg, wCall, wCons, wNil, wVar, wC, wBin, wRet, wIfS, wTst, wGn, wPar, wPar3, wTup, wNeg, wCB, wNext, wNotT, wAndT, wOrT, wTru, wIf, wDrop, oAdd, oSub, oMul, oDiv, oMod, oPow, oI, oI0, oIB, oLt, oLe, oGt, oGe, oAt, oIx, oEq, oNe, oEqK, cAbs, cInt, cLen, wBrk, wCnt, wIsi, wAndV, wOrV, wNotV, D.ty, Ty.sub, D.truth, oIsK, D.isN, wRetN, wGsub, wGet2, D.key, wGcons, wGnil, wGtup, wTupL, wNew, wLst, wDNew, wYes, wIterT, wIter, wRg1, wRg2, wEnum, wFor, wLc, wDc, wCat, wKeys, wPop, wReverse, wAppend, wEmp, wDictP, wSortI, wSortD, wLrg, wCallK, start3, List.map_cons, List.map_nil, List.cons_append, List.nil_append, List.getElem?_cons_zero, List.getElem?_cons_succ, List.set_cons_zero, List.set_cons_succ, List.length_cons, List.length_nil, List.replicate_succ, List.replicate_zero, Option.bind_some, Bool.true_xor, Bool.false_xor, Bool.xor_false, Bool.not_true, Bool.not_false, if_true, if_false, Bool.false_eq_true, wipeE, lk_two]
  refine lc_inv (fun L acc M' => M' = M ++ [.lkK m, nb] ∧ ∃ k, k ≤ m.length ∧ L = (keysD m).drop k ∧ acc = (m.take k).map fun p => .tup [kD p.1, p.2]) (fun l acc M' hP => by rw [hP.1]; exact two0) ?_ ?_ _ _ _ ⟨rfl, 0, Nat.zero_le _, by simp, by simp⟩
  · rintro acc M' ⟨rfl, k, hk, hL, rfl⟩
    have : m.length ≤ k := by
      have := congrArg List.length hL
      unfold keysD at this
      rw [List.length_nil, List.length_drop, List.length_map] at this
      omega
    rw [List.take_of_length_le this, pairsD_map (fun p : Key × D => p), List.map_id']
    simp only [wSeq, wAsg, wCall, wCons, wNil, wVar, wC, wBin, wRet, wIfS, wTst, wGn, wPar, wPar3, wTup, wNeg, wCB, wNext, wNotT, wAndT, wOrT, wTru, wIf, wDrop, oAdd, oSub, oMul, oDiv, oMod, oPow, oI, oI0, oIB, oLt, oLe, oGt, oGe, oAt, oIx, oEq, oNe, oEqK, cAbs, cInt, cLen, wBrk, wCnt, wIsi, wAndV, wOrV, wNotV, D.ty, Ty.sub, D.truth, oIsK, D.isN, wRetN, wGsub, wGet2, D.key, wGcons, wGnil, wGtup, wTupL, wNew, wLst, wDNew, wYes, wIterT, wIter, wRg1, wRg2, wEnum, wFor, wLc, wDc, wCat, wKeys, wPop, wReverse, wAppend, wEmp, wDictP, wSortI, wSortD, wLrg, wCallK, start3, List.map_cons, List.map_nil, List.cons_append, List.nil_append, List.getElem?_cons_zero, List.getElem?_cons_succ, List.set_cons_zero, List.set_cons_succ, List.length_cons, List.length_nil, List.replicate_succ, List.replicate_zero, Option.bind_some, Bool.true_xor, Bool.false_xor, Bool.xor_false, Bool.not_true, Bool.not_false, if_true, if_false, Bool.false_eq_true, wipeE]
    rw [merge_nd _ _ (by rw [List.nil_append]; exact r.nd), List.nil_append]
    refine ⟨?_, ?_⟩
    · rw [List.getElem?_append_left (by simp)]
      exact two0
    · rw [List.set_append_left _ _ (by simp), two_set0, List.append_assoc]
      refine ret_dict (k := (M ++ [Ob.lkK m, nb]).length) (List.prefix_append _ _) wf (by simp) ?_ (fun p hp => ?_) h
      · rw [List.getElem?_append_right (by simp)]
        simp
      · obtain ⟨i, e1, e2⟩ := r.key p hp
        rw [e2]
        exact ⟨trivial, trivial, trivial⟩
  · rintro d L acc M' Q ⟨rfl, k, hk, hL, rfl⟩ hQ
    have hkl : k < m.length := by
      have := congrArg List.length hL
      unfold keysD at this
      rw [List.length_cons, List.length_drop, List.length_map] at this
      omega
    have hd : (keysD m)[k]? = some d := by
      have := congrArg (fun l => l[0]?) hL
      simp only [List.getElem?_cons_zero, List.getElem?_drop, Nat.add_zero] at this
      exact this.symm
    have hL2 : L = (keysD m).drop (k + 1) := by
      have := congrArg List.tail hL
      rw [List.tail_cons, List.tail_drop] at this
      exact this
    unfold keysD at hd
    rw [List.getElem?_map, List.getElem?_eq_getElem hkl] at hd
    have hd : kD m[k].1 = d := Option.some.inj hd
    subst hd
    obtain ⟨i, e1, e2⟩ := r.key m[k] (List.getElem_mem hkl)
    have hval : valD m (.inl i) = some (qD (g i)) := by
      rcases r.val i with e | ⟨e, _⟩
      · exact e
      · exact ((valD_none e) (by rw [← e1]; exact List.mem_map_of_mem (List.getElem_mem hkl))).elim
    obtain ⟨d0, d1, d2⟩ := (hv i).den
    have hl := r.len
    simp only [wSeq, wAsg, wCall, wCons, wNil, wVar, wC, wBin, wRet, wIfS, wTst, wGn, wPar, wPar3, wTup, wNeg, wCB, wNext, wNotT, wAndT, wOrT, wTru, wIf, wDrop, oAdd, oSub, oMul, oDiv, oMod, oPow, oI, oI0, oIB, oLt, oLe, oGt, oGe, oAt, oIx, oEq, oNe, oEqK, cAbs, cInt, cLen, wBrk, wCnt, wIsi, wAndV, wOrV, wNotV, D.ty, Ty.sub, D.truth, oIsK, D.isN, wRetN, wGsub, wGet2, D.key, wGcons, wGnil, wGtup, wTupL, wNew, wLst, wDNew, wYes, wIterT, wIter, wRg1, wRg2, wEnum, wFor, wLc, wDc, wCat, wKeys, wPop, wReverse, wAppend, wEmp, wDictP, wSortI, wSortD, wLrg, wCallK, start3, List.map_cons, List.map_nil, List.cons_append, List.nil_append, List.getElem?_cons_zero, List.getElem?_cons_succ, List.set_cons_zero, List.set_cons_succ, List.length_cons, List.length_nil, List.replicate_succ, List.replicate_zero, Option.bind_some, Bool.true_xor, Bool.false_xor, Bool.xor_false, Bool.not_true, Bool.not_false, if_true, if_false, Bool.false_eq_true, wipeE, e1, kD, ht, hval, qD, at0, at1]
    refine ⟨_, _, rfl, d0, by omega, by omega, ?_, hQ _ _ ⟨rfl, k + 1, hkl, hL2, ?_⟩⟩
    · rw [List.length_map, List.length_take]
      omega
    · rw [List.take_add_one, List.getElem?_eq_getElem hkl, List.map_append, Rat.num_divInt_den]
      show _ = List.map _ (List.take k m) ++ [D.tup [kD m[k].1, m[k].2]]
      rw [e1, e2]
      rfl
theorem P__law_done : ∀ ds M R, wfM M.length M → S__law_done ds M R → W__law_done S_numbers (S_pm (· + ·)) S_lowest (ends3 M.length R) (start3 N__law_done ds) M := by
  rintro _ M R wf ⟨s, lo, xs, rfl, hs, hx, h⟩
  show (wSeq (wAsg wDNew (wGn 2))
  (wSeq (wAsg (wCall S_numbers (wCons (wVar 1) wNil)) (wGn 3))
  (wSeq (wFor (wIterT (wVar 0)) (wGtup 2 (wGcons (wGn 4) (wGcons (wGn 5) wGnil)))
  (wLock (wFor (wKeys keysD (wVar 3)) (wGn 6)
  (wAsg (wCall (S_pm (· + ·)) (wCons (wGet2 (wVar 2) (wBin oAdd (wVar 6) (wVar 4)) (wTup (wCons (wC (.int 0)) (wCons (wC (.int 1)) wNil)))) (wCons (wTup (wCons (wBin oMul (wBin oAt (wVar 5) (wC (.int 0))) (wBin oAt (wVar 3) (wVar 6))) (wCons (wBin oAt (wVar 5) (wC (.int 1))) wNil))) wNil))) (wGsub (wVar 2) (wBin oAdd (wVar 6) (wVar 4)))))))
  (law_done_tail S_lowest)))) _ _ _
  generalize hX : law_done_tail S_lowest = X
  simp only [N__law_done, wSeq, wAsg, wCall, wCons, wNil, wVar, wC, wBin, wRet, wIfS, wTst, wGn, wPar, wPar3, wTup, wNeg, wCB, wNext, wNotT, wAndT, wOrT, wTru, wIf, wDrop, oAdd, oSub, oMul, oDiv, oMod, oPow, oI, oI0, oIB, oLt, oLe, oGt, oGe, oAt, oIx, oEq, oNe, oEqK, cAbs, cInt, cLen, wBrk, wCnt, wIsi, wAndV, wOrV, wNotV, D.ty, Ty.sub, D.truth, oIsK, D.isN, wRetN, wGsub, wGet2, D.key, wGcons, wGnil, wGtup, wTupL, wNew, wLst, wDNew, wYes, wIterT, wIter, wRg1, wRg2, wEnum, wFor, wLc, wDc, wCat, wKeys, wPop, wReverse, wAppend, wEmp, wDictP, wSortI, wSortD, wLrg, wCallK, start3, List.map_cons, List.map_nil, List.cons_append, List.nil_append, List.getElem?_cons_zero, List.getElem?_cons_succ, List.set_cons_zero, List.set_cons_succ, List.length_cons, List.length_nil, List.replicate_succ, List.replicate_zero, Option.bind_some, Bool.true_xor, Bool.false_xor, Bool.xor_false, Bool.not_true, Bool.not_false, if_true, if_false, Bool.false_eq_true, wipeE, sD]
  have hz : 3000 ≤ sizeLine := by rw [sizeLine_eq]; decide
  refine ⟨lo, xs.map .int, rfl, by rw [List.length_map]; have := hx.len; omega, nls_ints xs, ?_⟩
  have hl1 : (M ++ [Ob.dK []]).length = M.length + 1 := by simp
  rw [hl1, List.append_assoc]
  have hmr : (numD lo (xs.map D.int)).length = xs.length := by rw [numD_len, List.length_map]
  show forW _ _ _ _ _ _ (M ++ [Ob.dK [], Ob.dK (numD lo (xs.map D.int))])
  refine for_inv (fun L env M' => ∃ (s' : List (Int × Rat)) (m : List (Key × D)) (g : Int → Rat) (e4 e5 e6 : Option D), L = s'.map tapD ∧ (∀ t ∈ s', t ∈ s) ∧ s'.length ≤ 8 ∧ env = [some (sD s), some (rowI lo xs), some (.loc M.length), some (.loc (M.length + 1)), e4, e5, e6] ∧ M' = M ++ [.dK m, .dK (numD lo (xs.map .int))] ∧ Rep qD 0 g m ∧ m.length ≤ 20 * (8 - s'.length) ∧ (∀ p, OkV (2 ^ 104 * (20 * (8 - s'.length))) (g p)) ∧ sumF lo xs s' g = sumF lo xs s fun _ => 0)
    (fun _ _ _ _ => trivial) ?_ ?_ _ _ _ ⟨s, [], fun _ => 0, none, none, none, rfl, fun t ht => ht, hs.len, rfl, rfl, ⟨fun p hp => (by cases hp), List.nodup_nil, fun _ _ => rfl, fun i hi => (by cases hi), Nat.zero_le _⟩, Nat.zero_le _, fun p => OkV.zero _, rfl⟩
  · rintro env M' ⟨s', m, g, e4, e5, e6, hL, _, hl, rfl, rfl, hr, hm, hv, hg⟩
    have : s' = [] := by cases s' with
      | nil => rfl
      | cons a b => cases hL
    subst this
    have hg : g = sumF lo xs s fun _ => 0 := hg
    subst hX
    exact tail_ok wf hr (fun p => (hv p).mono (by decide)) (h m (hg ▸ hr))
  · rintro d L env M' E' ⟨s', m, g, e4, e5, e6, hL, hin, hl, rfl, rfl, hr, hm, hv, hg⟩ hnx hct hrt hbk
    obtain ⟨t, s'', rfl⟩ : ∃ t s'', s' = t :: s'' := by cases s' with
      | nil => cases hL
      | cons a b => exact ⟨a, b, rfl⟩
    rw [List.map_cons] at hL
    injection hL with hd hL
    subst hd hL
    obtain ⟨sh, c⟩ := t
    have htS := hin _ List.mem_cons_self
    have hsh := hs.sh _ htS
    have htap := hs.tap _ htS
    have hxl := hx.len
    have hl0 := hx.l0
    have hl1 := hx.l1
    simp only [List.length_cons] at hl hm hv
    simp only at hsh htap
    have hlk : ∀ m, lkAt (M ++ [Ob.dK m, Ob.lkK (numD lo (xs.map D.int))]) (M.length + 1) = some (numD lo (xs.map D.int)) := fun m => by
      unfold lkAt
      rw [two1]
    have ht0 : ∀ m b, tblAt (M ++ [Ob.dK m, b]) M.length = some m := fun m b => by
      unfold tblAt
      rw [two0]
      rfl
    have ht1 : ∀ m, tblAt (M ++ [Ob.dK m, Ob.lkK (numD lo (xs.map D.int))]) (M.length + 1) = some (numD lo (xs.map D.int)) := fun m => by
      unfold tblAt
      rw [two1]
      rfl
    simp only [tapD, wSeq, wAsg, wCall, wCons, wNil, wVar, wC, wBin, wRet, wIfS, wTst, wGn, wPar, wPar3, wTup, wNeg, wCB, wNext, wNotT, wAndT, wOrT, wTru, wIf, wDrop, oAdd, oSub, oMul, oDiv, oMod, oPow, oI, oI0, oIB, oLt, oLe, oGt, oGe, oAt, oIx, oEq, oNe, oEqK, cAbs, cInt, cLen, wBrk, wCnt, wIsi, wAndV, wOrV, wNotV, D.ty, Ty.sub, D.truth, oIsK, D.isN, wRetN, wGsub, wGet2, D.key, wGcons, wGnil, wGtup, wTupL, wNew, wLst, wDNew, wYes, wIterT, wIter, wRg1, wRg2, wEnum, wFor, wLc, wDc, wCat, wKeys, wPop, wReverse, wAppend, wEmp, wDictP, wSortI, wSortD, wLrg, wCallK, start3, List.map_cons, List.map_nil, List.cons_append, List.nil_append, List.getElem?_cons_zero, List.getElem?_cons_succ, List.set_cons_zero, List.set_cons_succ, List.length_cons, List.length_nil, List.replicate_succ, List.replicate_zero, Option.bind_some, Bool.true_xor, Bool.false_xor, Bool.xor_false, Bool.not_true, Bool.not_false, if_true, if_false, Bool.false_eq_true, wipeE]
    refine ⟨trivial, trivial, M.length + 1, numD lo (xs.map .int), two1, ?_⟩
    rw [two_set1]
    simp only [wSeq, wAsg, wCall, wCons, wNil, wVar, wC, wBin, wRet, wIfS, wTst, wGn, wPar, wPar3, wTup, wNeg, wCB, wNext, wNotT, wAndT, wOrT, wTru, wIf, wDrop, oAdd, oSub, oMul, oDiv, oMod, oPow, oI, oI0, oIB, oLt, oLe, oGt, oGe, oAt, oIx, oEq, oNe, oEqK, cAbs, cInt, cLen, wBrk, wCnt, wIsi, wAndV, wOrV, wNotV, D.ty, Ty.sub, D.truth, oIsK, D.isN, wRetN, wGsub, wGet2, D.key, wGcons, wGnil, wGtup, wTupL, wNew, wLst, wDNew, wYes, wIterT, wIter, wRg1, wRg2, wEnum, wFor, wLc, wDc, wCat, wKeys, wPop, wReverse, wAppend, wEmp, wDictP, wSortI, wSortD, wLrg, wCallK, start3, List.map_cons, List.map_nil, List.cons_append, List.nil_append, List.getElem?_cons_zero, List.getElem?_cons_succ, List.set_cons_zero, List.set_cons_succ, List.length_cons, List.length_nil, List.replicate_succ, List.replicate_zero, Option.bind_some, Bool.true_xor, Bool.false_xor, Bool.xor_false, Bool.not_true, Bool.not_false, if_true, if_false, Bool.false_eq_true, wipeE, hlk, two_set1]
    refine for_inv (fun L env M' => ∃ (k : Nat) (m : List (Key × D)) (g' : Int → Rat) (e6 : Option D), k ≤ xs.length ∧ L = (keysD (numD lo (xs.map .int))).drop k ∧ env = [some (sD s), some (rowI lo xs), some (.loc M.length), some (.loc (M.length + 1)), some (.int sh), some (qD c), e6] ∧ M' = M ++ [.dK m, .lkK (numD lo (xs.map .int))] ∧ Rep qD 0 g' m ∧ m.length ≤ 20 * (8 - (s''.length + 1)) + k ∧ (∀ p, OkV (2 ^ 104 * (20 * (8 - (s''.length + 1)) + k)) (g' p)) ∧ addRow c sh (lo + k) (xs.drop k) g' = addRow c sh lo xs g)
      (fun l env M' hP => by obtain ⟨_, m, _, _, _, _, _, e, _⟩ := hP; rw [e]; exact two1) ?_ ?_ _ _ _ ⟨0, m, g, e6, Nat.zero_le _, by simp, rfl, rfl, hr, hm, hv, by simp⟩
    · rintro env M' ⟨k, m', g', e6, hk', hL, rfl, rfl, hr', hm', hv', hg'⟩
      have hkl : xs.length ≤ k := by
        have := congrArg List.length hL
        unfold keysD at this
        rw [List.length_nil, List.length_drop, List.length_map, hmr] at this
        omega
      rw [List.drop_of_length_le hkl] at hg'
      have hg' : g' = addRow c sh lo xs g := hg'
      refine ⟨two1, ?_⟩
      rw [two_set1]
      refine hnx _ _ ⟨s'', m', g', _, _, _, rfl, fun t ht => hin t (List.mem_cons_of_mem _ ht), by omega, rfl, rfl, hr', by omega, fun p => (hv' p).mono (Nat.mul_le_mul_left _ (by omega)), ?_⟩
      rw [hg', ← hg]
      rfl
    · rintro d L env M' E2 ⟨k, m', g', e6, hk', hL, rfl, rfl, hr', hm', hv', hg'⟩ hnx2 hct2 hrt2 hbk2
      have hkl : k < xs.length := by
        have := congrArg List.length hL
        unfold keysD at this
        rw [List.length_cons, List.length_drop, List.length_map, hmr] at this
        omega
      have hd : (keysD (numD lo (xs.map D.int)))[k]? = some d := by
        have := congrArg (fun l => l[0]?) hL
        simp only [List.getElem?_cons_zero, List.getElem?_drop, Nat.add_zero] at this
        exact this.symm
      have hL2 : L = (keysD (numD lo (xs.map D.int))).drop (k + 1) := by
        have := congrArg List.tail hL
        rw [List.tail_cons, List.tail_drop] at this
        exact this
      have hkn : k < (numD lo (xs.map D.int)).length := by rw [hmr]; exact hkl
      have hget : ∀ (l : List D) (a : Int) (j : Nat) (x : D), l[j]? = some x → (numD a l)[j]? = some (.inl (a + j), x) := by
        intro l
        induction l with
        | nil => intro a j x e; simp at e
        | cons y r ih =>
          intro a j x e
          cases j with
          | zero => cases e; simp [numD]
          | succ j =>
            have := ih (a + 1) j x e
            unfold numD
            rw [List.getElem?_cons_succ, this]
            congr 3
            omega
      have hnk := hget (xs.map D.int) lo k (.int xs[k]) (by rw [List.getElem?_map, List.getElem?_eq_getElem hkl]; rfl)
      unfold keysD at hd
      rw [List.getElem?_map, hnk] at hd
      have hd : D.int (lo + k) = d := Option.some.inj hd
      subst hd
      have hval : valD (numD lo (xs.map D.int)) (.inl (lo + (k : Int))) = some (.int xs[k]) := by
        cases e : valD (numD lo (xs.map D.int)) (.inl (lo + (k : Int))) with
        | none => exact ((valD_none e) (List.mem_map_of_mem (f := (·.1)) (List.mem_of_getElem? hnk))).elim
        | some v =>
          obtain ⟨j, j1, j2, j3⟩ := numD_key _ _ _ (valD_mem e)
          have : j = k := by
            have := Sum.inl.inj j2
            omega
          subst this
          rw [List.getElem?_map, List.getElem?_eq_getElem hkl] at j3
          exact congrArg some (Option.some.inj j3).symm
      have hb := hx.bd xs[k] (List.getElem_mem hkl)
      have hdrop : xs.drop k = xs[k] :: xs.drop (k + 1) := List.drop_eq_getElem_cons hkl
      rw [hdrop] at hg'
      have hg' : addRow c sh (lo + k + 1) (xs.drop (k + 1)) (updF g' (lo + k + sh) (g' (lo + k + sh) + c * (xs[k] : Rat))) = addRow c sh lo xs g := hg'
      have hcast : lo + (k : Int) + 1 = lo + ((k + 1 : Nat) : Int) := by omega
      rw [hcast] at hg'
      have hp : -1000 ≤ lo + (k : Int) + sh ∧ lo + (k : Int) + sh ≤ 1000 := by omega
      obtain ⟨⟨kk, hkk⟩, hcn⟩ := htap
      have hcd : c.den ≤ 1260 := Nat.le_of_dvd (by decide) ⟨kk, hkk⟩
      have hcd0 := c.den_nz
      obtain ⟨d0, d1, d2⟩ := (hv' (lo + k + sh)).den
      have hB : (2 ^ 104 * (20 * (8 - (s''.length + 1)) + k)) < 2 ^ 190 := by
        have : 20 * (8 - (s''.length + 1)) + k ≤ 2 ^ 10 := by omega
        have := Nat.mul_le_mul_left (2 ^ 104) this
        omega
      have hmul : (c.num * xs[k]).natAbs < 2 ^ 190 := by
        rw [Int.natAbs_mul]
        have := Nat.mul_le_mul hcn hb
        omega
      have hgd : (valD m' (Sum.inl (lo + (k : Int) + sh))).getD (D.tup [D.int 0, D.int 1]) = qD (g' (lo + k + sh)) := hr'.getD _
      simp only [wSeq, wAsg, wCall, wCons, wNil, wVar, wC, wBin, wRet, wIfS, wTst, wGn, wPar, wPar3, wTup, wNeg, wCB, wNext, wNotT, wAndT, wOrT, wTru, wIf, wDrop, oAdd, oSub, oMul, oDiv, oMod, oPow, oI, oI0, oIB, oLt, oLe, oGt, oGe, oAt, oIx, oEq, oNe, oEqK, cAbs, cInt, cLen, wBrk, wCnt, wIsi, wAndV, wOrV, wNotV, D.ty, Ty.sub, D.truth, oIsK, D.isN, wRetN, wGsub, wGet2, D.key, wGcons, wGnil, wGtup, wTupL, wNew, wLst, wDNew, wYes, wIterT, wIter, wRg1, wRg2, wEnum, wFor, wLc, wDc, wCat, wKeys, wPop, wReverse, wAppend, wEmp, wDictP, wSortI, wSortD, wLrg, wCallK, start3, List.map_cons, List.map_nil, List.cons_append, List.nil_append, List.getElem?_cons_zero, List.getElem?_cons_succ, List.set_cons_zero, List.set_cons_succ, List.length_cons, List.length_nil, List.replicate_succ, List.replicate_zero, Option.bind_some, Bool.true_xor, Bool.false_xor, Bool.xor_false, Bool.not_true, Bool.not_false, if_true, if_false, Bool.false_eq_true, wipeE, qD, ht0, ht1, hval, at0, at1, hgd]
      refine ⟨by omega, mulW (by omega) (by omega), by omega, _, _, _, _, rfl, d0, d1, by omega, by omega, by omega, hmul, ?_⟩
      simp only [two0, wSeq, wAsg, wCall, wCons, wNil, wVar, wC, wBin, wRet, wIfS, wTst, wGn, wPar, wPar3, wTup, wNeg, wCB, wNext, wNotT, wAndT, wOrT, wTru, wIf, wDrop, oAdd, oSub, oMul, oDiv, oMod, oPow, oI, oI0, oIB, oLt, oLe, oGt, oGe, oAt, oIx, oEq, oNe, oEqK, cAbs, cInt, cLen, wBrk, wCnt, wIsi, wAndV, wOrV, wNotV, D.ty, Ty.sub, D.truth, oIsK, D.isN, wRetN, wGsub, wGet2, D.key, wGcons, wGnil, wGtup, wTupL, wNew, wLst, wDNew, wYes, wIterT, wIter, wRg1, wRg2, wEnum, wFor, wLc, wDc, wCat, wKeys, wPop, wReverse, wAppend, wEmp, wDictP, wSortI, wSortD, wLrg, wCallK, start3, List.map_cons, List.map_nil, List.cons_append, List.nil_append, List.getElem?_cons_zero, List.getElem?_cons_succ, List.set_cons_zero, List.set_cons_succ, List.length_cons, List.length_nil, List.replicate_succ, List.replicate_zero, Option.bind_some, Bool.true_xor, Bool.false_xor, Bool.xor_false, Bool.not_true, Bool.not_false, if_true, if_false, Bool.false_eq_true, wipeE]
      rw [two_set0, Rat.num_divInt_den, tap_mul]
      refine ⟨by omega, hnx2 _ _ ⟨k + 1, _, _, _, hkl, hL2, rfl, rfl, hr'.put _ hp (by omega), ?_, fun p => ?_, hg'⟩⟩
      · have := putD_len m' (Sum.inl (lo + (k : Int) + sh)) (qD (g' (lo + k + sh) + c * (xs[k] : Rat)))
        omega
      · unfold updF
        split
        · have := (hv' (lo + k + sh)).add (OkT.mul ⟨⟨kk, hkk⟩, hcn⟩ hb)
          exact this.mono (by rw [← Nat.mul_succ]; exact Nat.le_refl _)
        · exact (hv' p).mono (Nat.mul_le_mul_left _ (by omega))
end K75
set_option Elab.async false
set_option linter.all false
set_option maxRecDepth 100000
set_option maxHeartbeats 400000
namespace K75
open PySem PySem.Spec PyProof.Rows L2 Gx R3

/-! ### bounds of what a sum makes -/
theorem addRow_out {c : Rat} {sh : Int} : ∀ (xs : List Int) (lo : Int) (g : Int → Rat) (p : Int), (p < lo + sh ∨ lo + sh + xs.length ≤ p) → addRow c sh lo xs g p = g p
  | [], _, _, _, _ => rfl
  | x :: r, lo, g, p, h => by
    rw [List.length_cons] at h
    show addRow c sh (lo + 1) r _ p = _
    rw [addRow_out r (lo + 1) _ p (by omega)]
    unfold updF
    rw [if_neg (by omega)]
theorem sumF_out {lo : Int} {xs : List Int} : ∀ (s : List (Int × Rat)) (g : Int → Rat) (p : Int), (∀ t ∈ s, p < lo + t.1 ∨ lo + t.1 + xs.length ≤ p) → sumF lo xs s g p = g p
  | [], _, _, _ => rfl
  | t :: r, g, p, h => by
    show sumF lo xs r _ p = _
    rw [sumF_out r _ p (fun t ht => h t (List.mem_cons_of_mem _ ht)), addRow_out xs lo g p (h t List.mem_cons_self)]
theorem addRow_ok {c : Rat} {sh : Int} (hc : OkT c) : ∀ (xs : List Int) (lo : Int) (g : Int → Rat) (B : Nat), (∀ x ∈ xs, x.natAbs ≤ 2 ^ 88) → (∀ p, OkV B (g p)) → ∀ p, OkV (B + 2 ^ 104 * xs.length) (addRow c sh lo xs g p)
  | [], _, _, _, _, h, p => h p
  | x :: r, lo, g, B, hx, h, p => by
    show OkV _ (addRow c sh (lo + 1) r _ p)
    have h1 := addRow_ok (sh := sh) hc r (lo + 1) (updF g (lo + sh) (g (lo + sh) + c * (x : Rat))) (B + 2 ^ 104) (fun x hx' => hx x (List.mem_cons_of_mem _ hx')) (fun q => by
      unfold updF
      split
      · exact (h _).add (hc.mul (hx x List.mem_cons_self))
      · exact (h q).mono (Nat.le_add_right _ _)) p
    refine h1.mono ?_
    rw [List.length_cons, Nat.mul_succ]
    omega
theorem sumF_ok {lo : Int} {xs : List Int} (hx : ∀ x ∈ xs, x.natAbs ≤ 2 ^ 88) : ∀ (s : List (Int × Rat)) (g : Int → Rat) (B : Nat), (∀ t ∈ s, OkT t.2) → (∀ p, OkV B (g p)) → ∀ p, OkV (B + 2 ^ 104 * xs.length * s.length) (sumF lo xs s g p)
  | [], _, _, _, h, p => h p
  | t :: r, g, B, hs, h, p => by
    have h1 := sumF_ok (lo := lo) hx r (addRow t.2 t.1 lo xs g) (B + 2 ^ 104 * xs.length) (fun t ht => hs t (List.mem_cons_of_mem _ ht)) (addRow_ok (hs t List.mem_cons_self) xs lo g B hx h) p
    refine OkV.mono h1 ?_
    rw [List.length_cons, Nat.mul_succ]
    omega
theorem F_ok {lo : Int} {xs : List Int} {s : List (Int × Rat)} (hs : SumOk s) (hx : RowOk lo xs) (p : Int) : OkV (2 ^ 112) (sumF lo xs s (fun _ => 0) p) := by
  refine (sumF_ok hx.bd s (fun _ => 0) 0 hs.tap (fun _ => OkV.zero _) p).mono ?_
  have h1 := Nat.mul_le_mul hx.len hs.len
  rw [Nat.mul_assoc, Nat.zero_add]
  have h2 := Nat.mul_le_mul_left (2 ^ 104) h1
  omega
theorem F_trim {lo : Int} {xs : List Int} {s : List (Int × Rat)} (hs : SumOk s) (hx : RowOk lo xs) {lo' : Int} {n : Nat} (h : Trim 0 (sumF lo xs s fun _ => 0) lo' n) : -100 ≤ lo' ∧ lo' + n ≤ 121 ∧ n ≤ 230 := by
  have hl := hx.len
  have h0 := hx.l0
  have h1 := hx.l1
  have key : ∀ p, sumF lo xs s (fun _ => 0) p ≠ 0 → -100 ≤ p ∧ p ≤ 120 := fun p hp => by
    refine Classical.byContradiction fun hn => hp ?_
    refine sumF_out s _ p fun t ht => ?_
    have := hs.sh t ht
    omega
  rcases h with ⟨rfl, rfl, _⟩ | ⟨a1, a2, a3, _⟩
  · omega
  · have b1 := key _ a2
    have b2 := key _ a3
    omega
/-! ### rounding of a rational -/
def rq (rule : Str) (q : Rat) : Int := rnd rule q.num q.den
theorem rnd_scale (rule : Str) (g a b : Int) (hg : 0 < g) : rnd rule (g * a) (g * b) = rnd rule a b := by
  unfold rnd
  have e1 : -(g * a) = g * -a := by rw [Int.mul_neg]
  have e2 : 2 * (g * a) + g * b = g * (2 * a + b) := by rw [Int.mul_add, Int.mul_left_comm]
  have e3 : 2 * (g * b) = g * (2 * b) := by rw [Int.mul_left_comm]
  have e4 : g * b - 2 * (g * a) = g * (b - 2 * a) := by rw [Int.mul_sub, Int.mul_left_comm 2 g a]
  rw [e1, e2, e4, e3, Int.mul_ediv_mul_of_pos _ _ hg, Int.mul_ediv_mul_of_pos _ _ hg, Int.mul_ediv_mul_of_pos _ _ hg, Int.mul_ediv_mul_of_pos _ _ hg]
theorem rnd_shift (rule : Str) (a b m : Int) (hb : 0 < b) : rnd rule (a - m * b) b = rnd rule a b - m := by
  unfold rnd
  have hb0 : b ≠ 0 := by omega
  have h2b : 2 * b ≠ 0 := by omega
  have e1 : -(a - m * b) = -a + m * b := by omega
  have e2 : 2 * (a - m * b) + b = (2 * a + b) + (-m) * (2 * b) := by
    rw [Int.mul_sub, Int.neg_mul, Int.mul_left_comm m 2 b]
    omega
  have e4 : b - 2 * (a - m * b) = (b - 2 * a) + m * (2 * b) := by
    rw [Int.mul_sub, Int.mul_left_comm m 2 b]
    omega
  have e5 : a - m * b = a + (-m) * b := by rw [Int.neg_mul]; omega
  rw [e1, e2, e4, e5, Int.add_mul_ediv_right _ _ hb0, Int.add_mul_ediv_right _ _ hb0, Int.add_mul_ediv_right _ _ h2b, Int.add_mul_ediv_right _ _ h2b]
  split
  · omega
  · split
    · omega
    · split <;> omega
theorem rq_divInt (rule : Str) (a b : Int) (hb : 0 < b) : rq rule (Rat.divInt a b) = rnd rule a b := by
  obtain ⟨g1, _⟩ := gcd_pos (a := a) hb
  have h := qD_divInt (a := a) hb
  unfold qD at h
  injection h with h
  injection h with h2 h3
  injection h2 with h2
  injection h3 with h3 _
  injection h3 with h3
  unfold rq
  rw [← h2, ← h3]
  have ea : (Int.gcd a b : Int) * (a / (Int.gcd a b : Int)) = a := Int.mul_ediv_cancel' (Int.gcd_dvd_left ..)
  have eb : (Int.gcd a b : Int) * (b / (Int.gcd a b : Int)) = b := Int.mul_ediv_cancel' (Int.gcd_dvd_right ..)
  have e := rnd_scale rule _ (a / (Int.gcd a b : Int)) (b / (Int.gcd a b : Int)) g1
  rw [ea, eb] at e
  exact e.symm
theorem cast_divInt (m : Int) : ((m : Int) : Rat) = Rat.divInt m 1 := by
  have := Rat.num_divInt_den (m : Rat)
  rw [Rat.num_intCast, Rat.den_intCast] at this
  exact this.symm
theorem sub_cast (q : Rat) (m : Int) : q - (m : Rat) = Rat.divInt (q.num - m * q.den) q.den := by
  have h0 : (q.den : Int) ≠ 0 := by have := q.den_nz; omega
  conv => lhs; rw [← Rat.num_divInt_den q, cast_divInt m, Rat.divInt_sub_divInt _ _ h0 (by decide)]
  rw [Int.mul_one, Int.mul_one]
theorem rq_sub (rule : Str) (q : Rat) (m : Int) : rq rule (q - (m : Rat)) = rq rule q - m := by
  have h0 : 0 < (q.den : Int) := by have := q.den_nz; omega
  rw [sub_cast, rq_divInt rule _ _ h0, rnd_shift rule _ _ _ h0]
  rfl
theorem ediv_abs (a b : Int) : (a / b).natAbs ≤ a.natAbs := Int.natAbs_ediv_le_natAbs a b
theorem rnd_abs (rule : Str) (a b : Int) (hb : 0 < b) : (rnd rule a b).natAbs ≤ 2 * a.natAbs + b.natAbs := by
  unfold rnd
  have h1 := ediv_abs a b
  have h2 := ediv_abs (-a) b
  have h3 := ediv_abs (2 * a + b) (2 * b)
  have h4 := ediv_abs (b - 2 * a) (2 * b)
  split
  · omega
  · split
    · omega
    · split <;> omega
theorem OkV.int {B : Nat} {m : Int} (h : m.natAbs ≤ B) : OkV (1260 * B) (m : Rat) := by
  refine ⟨m * 1260, by rw [Int.natAbs_mul]; show _ * 1260 ≤ _; omega, ?_⟩
  rw [cast_divInt]
  exact (Rat.divInt_mul_right (n := m) (d := 1) (by decide)).symm
/-! ### running sums -/
def cum (F : Int → Rat) (lo : Int) : Nat → Rat
  | 0 => 0
  | k + 1 => cum F lo k + F (lo + (k : Int))
theorem cum_ok {F : Int → Rat} (lo : Int) (h : ∀ p, OkV (2 ^ 112) (F p)) : ∀ k, OkV (2 ^ 112 * k) (cum F lo k)
  | 0 => OkV.zero _
  | k + 1 => ((cum_ok lo h k).add (h _)).mono (by rw [Nat.mul_succ]; exact Nat.le_refl _)
/-- rounded running sums -/
def nwk (rule : Str) (F : Int → Rat) (lo : Int) (k : Nat) : Int := rq rule (cum F lo k)
def lft (rule : Str) (F : Int → Rat) (lo : Int) (k : Nat) : Rat := cum F lo k - (nwk rule F lo k : Rat)
theorem nwk_zero (rule : Str) (F : Int → Rat) (lo : Int) : nwk rule F lo 0 = 0 := by
  unfold nwk rq rnd cum
  have e1 : Rat.num 0 = 0 := rfl
  have e2 : Rat.den 0 = 1 := rfl
  rw [e1, e2]
  split
  · rfl
  · split
    · rfl
    · split <;> rfl
theorem lft_zero (rule : Str) (F : Int → Rat) (lo : Int) : lft rule F lo 0 = 0 := by
  unfold lft
  rw [nwk_zero]
  show (0 : Rat) - ((0 : Int) : Rat) = 0
  rw [Rat.intCast_zero]
  grind
/-- the row that is handed -/
def hF (rule : Str) (F : Int → Rat) (lo : Int) (n : Nat) (p : Int) : Int := if lo ≤ p ∧ p < lo + (n : Int) then nwk rule F lo ((p - lo).toNat + 1) - nwk rule F lo (p - lo).toNat else 0
theorem hF_at (rule : Str) (F : Int → Rat) (lo : Int) {n k : Nat} (h : k < n) : hF rule F lo n (lo + (k : Int)) = nwk rule F lo (k + 1) - nwk rule F lo k := by
  unfold hF
  rw [if_pos (by omega), show (lo + (k : Int) - lo).toNat = k by omega]
theorem lft_step (rule : Str) (F : Int → Rat) (lo : Int) {n k : Nat} (h : k < n) : rq rule (F (lo + (k : Int)) + lft rule F lo k) = hF rule F lo n (lo + (k : Int)) ∧ F (lo + (k : Int)) + lft rule F lo k - (hF rule F lo n (lo + (k : Int)) : Rat) = lft rule F lo (k + 1) := by
  have e : F (lo + (k : Int)) + lft rule F lo k = cum F lo (k + 1) - (nwk rule F lo k : Rat) := by
    show _ = cum F lo k + F (lo + (k : Int)) - (nwk rule F lo k : Rat)
    unfold lft
    grind
  rw [hF_at rule F lo h, e, rq_sub]
  refine ⟨rfl, ?_⟩
  rw [Rat.intCast_sub]
  unfold lft
  grind
theorem lft_ok {F : Int → Rat} (rule : Str) (lo : Int) (h : ∀ p, OkV (2 ^ 112) (F p)) {k : Nat} (hk : k ≤ 300) : OkV (2 ^ 150) (lft rule F lo k) ∧ (nwk rule F lo k).natAbs ≤ 2 ^ 125 := by
  have h1 := cum_ok lo h k
  obtain ⟨d0, d1, d2⟩ := h1.den
  have hm : 2 ^ 112 * k ≤ 2 ^ 112 * 300 := Nat.mul_le_mul_left _ hk
  have h2 := rnd_abs rule (cum F lo k).num (cum F lo k).den d0
  have h3 : (nwk rule F lo k).natAbs ≤ 2 ^ 125 := by
    show (rnd rule (cum F lo k).num (cum F lo k).den).natAbs ≤ _
    omega
  refine ⟨(h1.sub (OkV.int h3)).mono ?_, h3⟩
  omega
end K75
set_option Elab.async false
set_option linter.all false
set_option maxRecDepth 100000
set_option maxHeartbeats 400000
namespace K75
open PySem PySem.Spec PyProof.Rows L2 Gx R3

theorem numD_get : ∀ (l : List D) (a : Int) (j : Nat) (x : D), l[j]? = some x → (numD a l)[j]? = some (.inl (a + j), x)
  | [], a, j, x, e => by simp at e
  | y :: r, a, 0, x, e => by cases e; simp [numD]
  | y :: r, a, j + 1, x, e => by
    have := numD_get r (a + 1) j x e
    unfold numD
    rw [List.getElem?_cons_succ, this]
    congr 3
    omega
theorem val_numD {xs : List D} {lo : Int} {k : Nat} {d : D} (h : xs[k]? = some d) : valD (numD lo xs) (.inl (lo + (k : Int))) = some d := by
  cases e : valD (numD lo xs) (.inl (lo + (k : Int))) with
  | none => exact ((valD_none e) (List.mem_map_of_mem (f := (·.1)) (List.mem_of_getElem? (numD_get _ _ _ _ h)))).elim
  | some v =>
    obtain ⟨j, j1, j2, j3⟩ := numD_key _ _ _ (valD_mem e)
    have : j = k := by
      have := Sum.inl.inj j2
      omega
    subst this
    rw [h] at j3
    exact congrArg some (Option.some.inj j3).symm
/-- the first k of a row of numbers -/
def firstD {α : Type} (enc : α → D) (f : Int → α) (lo : Int) (k : Nat) : List D := (List.range k).map fun (j : Nat) => enc (f (lo + (j : Int)))
theorem firstD_len {α : Type} (enc : α → D) (f : Int → α) (lo : Int) (k : Nat) : (firstD enc f lo k).length = k := by unfold firstD; simp
theorem firstD_get {α : Type} {enc : α → D} {f : Int → α} {lo : Int} {k j : Nat} (h : j < k) : (firstD enc f lo k)[j]? = some (enc (f (lo + (j : Int)))) := by
  unfold firstD
  rw [List.getElem?_map, List.getElem?_range h]
  rfl
theorem firstD_succ {α : Type} (enc : α → D) (f : Int → α) (lo : Int) (k : Nat) : firstD enc f lo (k + 1) = firstD enc f lo k ++ [enc (f (lo + (k : Int)))] := by
  unfold firstD
  rw [List.range_succ, List.map_append]
  rfl
theorem put_first {α : Type} (enc : α → D) (f : Int → α) (lo : Int) (k : Nat) : putD (numD lo (firstD enc f lo k)) (.inl (lo + (k : Int))) (enc (f (lo + (k : Int)))) = numD lo (firstD enc f lo (k + 1)) := by
  rw [putD_new, firstD_succ, numD_snoc, firstD_len]
  rw [numD_keys, firstD_len]
  omega
theorem rgD_drop {lo : Int} {n k : Nat} {d : D} {L : List D} (h : d :: L = (rgD lo n).drop k) : k < n ∧ d = .int (lo + (k : Int)) ∧ L = (rgD lo n).drop (k + 1) := by
  have hkl : k < n := by
    have := congrArg List.length h
    rw [List.length_cons, List.length_drop, rgD_length] at this
    omega
  refine ⟨hkl, ?_, ?_⟩
  · have := congrArg (fun l => l[0]?) h
    simp only [List.getElem?_cons_zero, List.getElem?_drop, Nat.add_zero] at this
    unfold rgD at this
    rw [List.getElem?_map, List.getElem?_range hkl] at this
    exact Option.some.inj this
  · have := congrArg List.tail h
    rw [List.tail_cons, List.tail_drop] at this
    exact this
theorem rgD_nil {lo : Int} {n k : Nat} (h : [] = (rgD lo n).drop k) (hk : k ≤ n) : k = n := by
  have := congrArg List.length h
  rw [List.length_nil, List.length_drop, rgD_length] at this
  omega
abbrev FF (lo : Int) (xs : List Int) (s : List (Int × Rat)) : Int → Rat := sumF lo xs s fun _ => 0
def S_handed_by : SP3 := fun ds M R => ∃ (s : List (Int × Rat)) (rule : Str) (lo : Int) (xs : List Int), ds = [sD s, .str rule, rowI lo xs] ∧ SumOk s ∧ RowOk lo xs ∧
  ∀ lo' n, Trim 0 (FF lo xs s) lo' n → R (.tup [.loc M.length, qD (lft rule (FF lo xs s) lo' n)]) (M ++ [.dK (numD lo' (firstD D.int (hF rule (FF lo xs s) lo' n) lo' n))])
theorem tbl0 {M : Mem} {m : List (Key × D)} {b : Ob} : tblAt (M ++ [Ob.dK m, b]) M.length = some m := by
  unfold tblAt
  rw [two0]
  rfl
theorem tbl1 {M : Mem} {m : List (Key × D)} {a : Ob} : tblAt (M ++ [a, Ob.dK m]) (M.length + 1) = some m := by
  unfold tblAt
  rw [two1]
  rfl
theorem ren_tup2 {n k : Nat} {d : D} (h : d.nl) : D.tup [.loc k, d] = (D.tup [.loc n, d]).ren (List.range n ++ [k]) := by
  have e : (D.tup [.loc n, d]).ren (List.range n ++ [k]) = D.tup [(D.loc n).ren (List.range n ++ [k]), d.ren (List.range n ++ [k])] := rfl
  rw [e, ren_new, D.nl_ren _ _ h]
theorem P_handed_by : ∀ ds M R, wfM M.length M → S_handed_by ds M R → W_handed_by S_done S_numbers (S_pm (· + ·)) S_rnd (S_pm (· - ·)) (qD 0) (ends3 M.length R) (start3 N_handed_by ds) M := by
  rintro _ M R wf ⟨s, rule, lo, xs, rfl, hs, hx, h⟩
  have hz : 3000 ≤ sizeLine := by rw [sizeLine_eq]; decide
  simp only [W_handed_by, N_handed_by, wSeq, wAsg, wCall, wCons, wNil, wVar, wC, wBin, wRet, wIfS, wTst, wGn, wPar, wPar3, wTup, wNeg, wCB, wNext, wNotT, wAndT, wOrT, wTru, wIf, wDrop, oAdd, oSub, oMul, oDiv, oMod, oPow, oI, oI0, oIB, oLt, oLe, oGt, oGe, oAt, oIx, oEq, oNe, oEqK, cAbs, cInt, cLen, wBrk, wCnt, wIsi, wAndV, wOrV, wNotV, D.ty, Ty.sub, D.truth, oIsK, D.isN, wRetN, wGsub, wGet2, D.key, wGcons, wGnil, wGtup, wTupL, wNew, wLst, wDNew, wYes, wIterT, wIter, wRg1, wRg2, wEnum, wFor, wLc, wDc, wCat, wKeys, wPop, wReverse, wAppend, wEmp, wDictP, wSortI, wSortD, wLrg, wCallK, start3, List.map_cons, List.map_nil, List.cons_append, List.nil_append, List.getElem?_cons_zero, List.getElem?_cons_succ, List.set_cons_zero, List.set_cons_succ, List.length_cons, List.length_nil, List.replicate_succ, List.replicate_zero, Option.bind_some, Bool.true_xor, Bool.false_xor, Bool.xor_false, Bool.not_true, Bool.not_false, if_true, if_false, Bool.false_eq_true, wipeE]
  refine ⟨s, lo, xs, rfl, hs, hx, fun lo' n ht _ _ _ => ?_⟩
  obtain ⟨t0, t1, t2⟩ := F_trim hs hx ht
  have hF1 := F_ok hs hx
  replace h := h lo' n ht
  unfold FF at h
  generalize (sumF lo xs s fun _ => 0) = F at h hF1 ⊢
  refine ⟨lo', firstD qD F lo' n, rfl, by rw [firstD_len]; omega, nls_map _ (fun _ => enc_rat.1 _) _, ?_⟩
  have hl1 : ((firstD qD F lo' n).length : Int) = n := by rw [firstD_len]
  have er : rowD qD F lo' n = .tup [.int lo', .tup (firstD qD F lo' n)] := rfl
  simp only [er, wSeq, wAsg, wCall, wCons, wNil, wVar, wC, wBin, wRet, wIfS, wTst, wGn, wPar, wPar3, wTup, wNeg, wCB, wNext, wNotT, wAndT, wOrT, wTru, wIf, wDrop, oAdd, oSub, oMul, oDiv, oMod, oPow, oI, oI0, oIB, oLt, oLe, oGt, oGe, oAt, oIx, oEq, oNe, oEqK, cAbs, cInt, cLen, wBrk, wCnt, wIsi, wAndV, wOrV, wNotV, D.ty, Ty.sub, D.truth, oIsK, D.isN, wRetN, wGsub, wGet2, D.key, wGcons, wGnil, wGtup, wTupL, wNew, wLst, wDNew, wYes, wIterT, wIter, wRg1, wRg2, wEnum, wFor, wLc, wDc, wCat, wKeys, wPop, wReverse, wAppend, wEmp, wDictP, wSortI, wSortD, wLrg, wCallK, start3, List.map_cons, List.map_nil, List.cons_append, List.nil_append, List.getElem?_cons_zero, List.getElem?_cons_succ, List.set_cons_zero, List.set_cons_succ, List.length_cons, List.length_nil, List.replicate_succ, List.replicate_zero, Option.bind_some, Bool.true_xor, Bool.false_xor, Bool.xor_false, Bool.not_true, Bool.not_false, if_true, if_false, Bool.false_eq_true, wipeE, at0, at1, hl1, List.append_assoc]
  have en : (lo' + (n : Int) - lo').toNat = n := by omega
  rw [en]
  refine ⟨⟨⟨by omega, by omega⟩, by omega, by omega⟩, ?_⟩
  have hl2 : (M ++ [Ob.dK (numD lo' (firstD qD F lo' n))]).length = M.length + 1 := by simp
  rw [hl2]
  refine for_inv (fun L env M' => ∃ (k : Nat) (e7 e8 : Option D), k ≤ n ∧ L = (rgD lo' n).drop k ∧ env = [some (sD s), some (.str rule), some (rowI lo xs), some (.tup [.int lo', .tup (firstD qD F lo' n)]), some (.loc M.length), some (.loc (M.length + 1)), some (qD (lft rule F lo' k)), e7, e8] ∧ M' = M ++ [.dK (numD lo' (firstD qD F lo' n)), .dK (numD lo' (firstD D.int (hF rule F lo' n) lo' k))])
    (fun _ _ _ _ => trivial) ?_ ?_ _ _ _ ⟨0, none, none, Nat.zero_le _, rfl, by rw [lft_zero], rfl⟩
  · rintro env M' ⟨k, e7, e8, hk, hL, rfl, rfl⟩
    have hk := rgD_nil hL hk
    subst hk
    simp only [wSeq, wAsg, wCall, wCons, wNil, wVar, wC, wBin, wRet, wIfS, wTst, wGn, wPar, wPar3, wTup, wNeg, wCB, wNext, wNotT, wAndT, wOrT, wTru, wIf, wDrop, oAdd, oSub, oMul, oDiv, oMod, oPow, oI, oI0, oIB, oLt, oLe, oGt, oGe, oAt, oIx, oEq, oNe, oEqK, cAbs, cInt, cLen, wBrk, wCnt, wIsi, wAndV, wOrV, wNotV, D.ty, Ty.sub, D.truth, oIsK, D.isN, wRetN, wGsub, wGet2, D.key, wGcons, wGnil, wGtup, wTupL, wNew, wLst, wDNew, wYes, wIterT, wIter, wRg1, wRg2, wEnum, wFor, wLc, wDc, wCat, wKeys, wPop, wReverse, wAppend, wEmp, wDictP, wSortI, wSortD, wLrg, wCallK, start3, List.map_cons, List.map_nil, List.cons_append, List.nil_append, List.getElem?_cons_zero, List.getElem?_cons_succ, List.set_cons_zero, List.set_cons_succ, List.length_cons, List.length_nil, List.replicate_succ, List.replicate_zero, Option.bind_some, Bool.true_xor, Bool.false_xor, Bool.xor_false, Bool.not_true, Bool.not_false, if_true, if_false, Bool.false_eq_true, wipeE]
    refine ⟨by omega, ?_⟩
    refine ret_new (k := M.length + 1) (List.prefix_append _ _) wf (by omega) two1 (nls_wfK _ (nls_map _ (fun _ => enc_int.1 _) _)) (ren_tup2 (enc_rat.1 _)) ⟨Nat.lt_succ_self _, D.nl_wf _ _ (enc_rat.1 _), trivial⟩ h
  · rintro d L env M' E' ⟨k, e7, e8, hk, hL, rfl, rfl⟩ hnx hct hrt hbk
    obtain ⟨hkn, rfl, hL2⟩ := rgD_drop hL
    have hv := val_numD (lo := lo') (firstD_get (enc := qD) (f := F) (lo := lo') hkn)
    obtain ⟨c0, c1, c2⟩ := (hF1 (lo' + k)).den
    obtain ⟨l1, l2⟩ := lft_ok (k := k) rule lo' hF1 (by omega)
    obtain ⟨d0, d1, d2⟩ := l1.den
    have q1 := (hF1 (lo' + k)).add l1
    obtain ⟨f0, f1, f2⟩ := q1.den
    obtain ⟨s1, s2⟩ := lft_step rule F lo' hkn
    simp only [wSeq, wAsg, wCall, wCons, wNil, wVar, wC, wBin, wRet, wIfS, wTst, wGn, wPar, wPar3, wTup, wNeg, wCB, wNext, wNotT, wAndT, wOrT, wTru, wIf, wDrop, oAdd, oSub, oMul, oDiv, oMod, oPow, oI, oI0, oIB, oLt, oLe, oGt, oGe, oAt, oIx, oEq, oNe, oEqK, cAbs, cInt, cLen, wBrk, wCnt, wIsi, wAndV, wOrV, wNotV, D.ty, Ty.sub, D.truth, oIsK, D.isN, wRetN, wGsub, wGet2, D.key, wGcons, wGnil, wGtup, wTupL, wNew, wLst, wDNew, wYes, wIterT, wIter, wRg1, wRg2, wEnum, wFor, wLc, wDc, wCat, wKeys, wPop, wReverse, wAppend, wEmp, wDictP, wSortI, wSortD, wLrg, wCallK, start3, List.map_cons, List.map_nil, List.cons_append, List.nil_append, List.getElem?_cons_zero, List.getElem?_cons_succ, List.set_cons_zero, List.set_cons_succ, List.length_cons, List.length_nil, List.replicate_succ, List.replicate_zero, Option.bind_some, Bool.true_xor, Bool.false_xor, Bool.xor_false, Bool.not_true, Bool.not_false, if_true, if_false, Bool.false_eq_true, wipeE, tbl0, tbl1, hv]
    refine ⟨_, _, _, _, rfl, c0, c1, d0, d1, by omega, by omega, ?_⟩
    rw [Rat.num_divInt_den, Rat.num_divInt_den]
    dsimp only
    generalize hq : F (lo' + (k : Int)) + lft rule F lo' k = q at s1 s2 f0 f1 f2 ⊢
    have eq : qD q = .tup [.int q.num, .int q.den] := rfl
    simp only [eq, wSeq, wAsg, wCall, wCons, wNil, wVar, wC, wBin, wRet, wIfS, wTst, wGn, wPar, wPar3, wTup, wNeg, wCB, wNext, wNotT, wAndT, wOrT, wTru, wIf, wDrop, oAdd, oSub, oMul, oDiv, oMod, oPow, oI, oI0, oIB, oLt, oLe, oGt, oGe, oAt, oIx, oEq, oNe, oEqK, cAbs, cInt, cLen, wBrk, wCnt, wIsi, wAndV, wOrV, wNotV, D.ty, Ty.sub, D.truth, oIsK, D.isN, wRetN, wGsub, wGet2, D.key, wGcons, wGnil, wGtup, wTupL, wNew, wLst, wDNew, wYes, wIterT, wIter, wRg1, wRg2, wEnum, wFor, wLc, wDc, wCat, wKeys, wPop, wReverse, wAppend, wEmp, wDictP, wSortI, wSortD, wLrg, wCallK, start3, List.map_cons, List.map_nil, List.cons_append, List.nil_append, List.getElem?_cons_zero, List.getElem?_cons_succ, List.set_cons_zero, List.set_cons_succ, List.length_cons, List.length_nil, List.replicate_succ, List.replicate_zero, Option.bind_some, Bool.true_xor, Bool.false_xor, Bool.xor_false, Bool.not_true, Bool.not_false, if_true, if_false, Bool.false_eq_true, wipeE, at0, at1]
    refine ⟨rule, _, _, rfl, f0, by omega, by omega, ?_⟩
    have s1 : rnd rule q.num q.den = hF rule F lo' n (lo' + k) := s1
    rw [s1]
    have hr := rnd_abs rule q.num q.den f0
    rw [s1] at hr
    have hv2 := val_numD (lo := lo') (firstD_get (enc := D.int) (f := hF rule F lo' n) (lo := lo') (Nat.lt_succ_self k))
    simp only [wSeq, wAsg, wCall, wCons, wNil, wVar, wC, wBin, wRet, wIfS, wTst, wGn, wPar, wPar3, wTup, wNeg, wCB, wNext, wNotT, wAndT, wOrT, wTru, wIf, wDrop, oAdd, oSub, oMul, oDiv, oMod, oPow, oI, oI0, oIB, oLt, oLe, oGt, oGe, oAt, oIx, oEq, oNe, oEqK, cAbs, cInt, cLen, wBrk, wCnt, wIsi, wAndV, wOrV, wNotV, D.ty, Ty.sub, D.truth, oIsK, D.isN, wRetN, wGsub, wGet2, D.key, wGcons, wGnil, wGtup, wTupL, wNew, wLst, wDNew, wYes, wIterT, wIter, wRg1, wRg2, wEnum, wFor, wLc, wDc, wCat, wKeys, wPop, wReverse, wAppend, wEmp, wDictP, wSortI, wSortD, wLrg, wCallK, start3, List.map_cons, List.map_nil, List.cons_append, List.nil_append, List.getElem?_cons_zero, List.getElem?_cons_succ, List.set_cons_zero, List.set_cons_succ, List.length_cons, List.length_nil, List.replicate_succ, List.replicate_zero, Option.bind_some, Bool.true_xor, Bool.false_xor, Bool.xor_false, Bool.not_true, Bool.not_false, if_true, if_false, Bool.false_eq_true, wipeE, two1, two_set1, put_first D.int (hF rule F lo' n) lo' k, tbl1, hv2]
    refine ⟨by rw [numD_len, firstD_len]; omega, by omega, _, _, _, _, rfl, f0, f1, by omega, by omega, by omega, by omega, ?_⟩
    rw [Rat.num_divInt_den, ← cast_divInt]
    dsimp only
    rw [s2]
    exact hnx _ _ ⟨k + 1, _, _, hkn, hL2, rfl, rfl⟩
def S_handed : SP3 := fun ds M R => ∃ (s : List (Int × Rat)) (rule : Str) (lo : Int) (xs : List Int), ds = [sD s, .str rule, rowI lo xs] ∧ SumOk s ∧ RowOk lo xs ∧
  ∀ lo' n lo2 n2, Trim 0 (FF lo xs s) lo' n → Trim 0 (hF rule (FF lo xs s) lo' n) lo2 n2 → R (rowD D.int (hF rule (FF lo xs s) lo' n) lo2 n2) M
theorem rep_hF {rule : Str} {F : Int → Rat} {lo : Int} {n : Nat} (h0 : -100 ≤ lo) (h1 : lo + n ≤ 121) (h2 : n ≤ 230) : Rep D.int 0 (hF rule F lo n) (numD lo (firstD D.int (hF rule F lo n) lo n)) :=
  rep_num (by omega) (by omega) (by omega) fun p hp => by
    unfold hF
    rw [if_neg (by omega)]
theorem P_handed : ∀ ds M R, wfM M.length M → S_handed ds M R → W_handed (S_row1 D.int (0 : Int)) S_handed_by (ends3 M.length R) (start3 N_handed ds) M := by
  rintro _ M R wf ⟨s, rule, lo, xs, rfl, hs, hx, h⟩
  simp only [W_handed, N_handed, wSeq, wAsg, wCall, wCons, wNil, wVar, wC, wBin, wRet, wIfS, wTst, wGn, wPar, wPar3, wTup, wNeg, wCB, wNext, wNotT, wAndT, wOrT, wTru, wIf, wDrop, oAdd, oSub, oMul, oDiv, oMod, oPow, oI, oI0, oIB, oLt, oLe, oGt, oGe, oAt, oIx, oEq, oNe, oEqK, cAbs, cInt, cLen, wBrk, wCnt, wIsi, wAndV, wOrV, wNotV, D.ty, Ty.sub, D.truth, oIsK, D.isN, wRetN, wGsub, wGet2, D.key, wGcons, wGnil, wGtup, wTupL, wNew, wLst, wDNew, wYes, wIterT, wIter, wRg1, wRg2, wEnum, wFor, wLc, wDc, wCat, wKeys, wPop, wReverse, wAppend, wEmp, wDictP, wSortI, wSortD, wLrg, wCallK, start3, List.map_cons, List.map_nil, List.cons_append, List.nil_append, List.getElem?_cons_zero, List.getElem?_cons_succ, List.set_cons_zero, List.set_cons_succ, List.length_cons, List.length_nil, List.replicate_succ, List.replicate_zero, Option.bind_some, Bool.true_xor, Bool.false_xor, Bool.xor_false, Bool.not_true, Bool.not_false, if_true, if_false, Bool.false_eq_true, wipeE]
  refine ⟨s, rule, lo, xs, rfl, hs, hx, fun lo' n ht => ?_⟩
  obtain ⟨t0, t1, t2⟩ := F_trim hs hx ht
  simp only [wSeq, wAsg, wCall, wCons, wNil, wVar, wC, wBin, wRet, wIfS, wTst, wGn, wPar, wPar3, wTup, wNeg, wCB, wNext, wNotT, wAndT, wOrT, wTru, wIf, wDrop, oAdd, oSub, oMul, oDiv, oMod, oPow, oI, oI0, oIB, oLt, oLe, oGt, oGe, oAt, oIx, oEq, oNe, oEqK, cAbs, cInt, cLen, wBrk, wCnt, wIsi, wAndV, wOrV, wNotV, D.ty, Ty.sub, D.truth, oIsK, D.isN, wRetN, wGsub, wGet2, D.key, wGcons, wGnil, wGtup, wTupL, wNew, wLst, wDNew, wYes, wIterT, wIter, wRg1, wRg2, wEnum, wFor, wLc, wDc, wCat, wKeys, wPop, wReverse, wAppend, wEmp, wDictP, wSortI, wSortD, wLrg, wCallK, start3, List.map_cons, List.map_nil, List.cons_append, List.nil_append, List.getElem?_cons_zero, List.getElem?_cons_succ, List.set_cons_zero, List.set_cons_succ, List.length_cons, List.length_nil, List.replicate_succ, List.replicate_zero, Option.bind_some, Bool.true_xor, Bool.false_xor, Bool.xor_false, Bool.not_true, Bool.not_false, if_true, if_false, Bool.false_eq_true, wipeE, at0]
  refine ⟨_, _, _, rfl, by rw [List.getElem?_append_right (Nat.le_refl _), Nat.sub_self]; rfl, rep_hF t0 t1 t2, fun lo2 n2 h1 _ _ _ => ?_⟩
  exact ret_pre (List.prefix_append _ _) wf (rowD_nl enc_int.1 _ _ _) (h lo' n lo2 n2 ht h1)
def S_handed_rest : SP3 := fun ds M R => ∃ (s : List (Int × Rat)) (rule : Str) (lo : Int) (xs : List Int), ds = [sD s, .str rule, rowI lo xs] ∧ SumOk s ∧ RowOk lo xs ∧
  ∀ lo' n, Trim 0 (FF lo xs s) lo' n → R (qD (lft rule (FF lo xs s) lo' n)) M
theorem P_handed_rest : ∀ ds M R, wfM M.length M → S_handed_rest ds M R → W_handed_rest S_handed_by (ends3 M.length R) (start3 N_handed_rest ds) M := by
  rintro _ M R wf ⟨s, rule, lo, xs, rfl, hs, hx, h⟩
  simp only [W_handed_rest, N_handed_rest, wSeq, wAsg, wCall, wCons, wNil, wVar, wC, wBin, wRet, wIfS, wTst, wGn, wPar, wPar3, wTup, wNeg, wCB, wNext, wNotT, wAndT, wOrT, wTru, wIf, wDrop, oAdd, oSub, oMul, oDiv, oMod, oPow, oI, oI0, oIB, oLt, oLe, oGt, oGe, oAt, oIx, oEq, oNe, oEqK, cAbs, cInt, cLen, wBrk, wCnt, wIsi, wAndV, wOrV, wNotV, D.ty, Ty.sub, D.truth, oIsK, D.isN, wRetN, wGsub, wGet2, D.key, wGcons, wGnil, wGtup, wTupL, wNew, wLst, wDNew, wYes, wIterT, wIter, wRg1, wRg2, wEnum, wFor, wLc, wDc, wCat, wKeys, wPop, wReverse, wAppend, wEmp, wDictP, wSortI, wSortD, wLrg, wCallK, start3, List.map_cons, List.map_nil, List.cons_append, List.nil_append, List.getElem?_cons_zero, List.getElem?_cons_succ, List.set_cons_zero, List.set_cons_succ, List.length_cons, List.length_nil, List.replicate_succ, List.replicate_zero, Option.bind_some, Bool.true_xor, Bool.false_xor, Bool.xor_false, Bool.not_true, Bool.not_false, if_true, if_false, Bool.false_eq_true, wipeE]
  refine ⟨s, rule, lo, xs, rfl, hs, hx, fun lo' n ht => ?_⟩
  simp only [wSeq, wAsg, wCall, wCons, wNil, wVar, wC, wBin, wRet, wIfS, wTst, wGn, wPar, wPar3, wTup, wNeg, wCB, wNext, wNotT, wAndT, wOrT, wTru, wIf, wDrop, oAdd, oSub, oMul, oDiv, oMod, oPow, oI, oI0, oIB, oLt, oLe, oGt, oGe, oAt, oIx, oEq, oNe, oEqK, cAbs, cInt, cLen, wBrk, wCnt, wIsi, wAndV, wOrV, wNotV, D.ty, Ty.sub, D.truth, oIsK, D.isN, wRetN, wGsub, wGet2, D.key, wGcons, wGnil, wGtup, wTupL, wNew, wLst, wDNew, wYes, wIterT, wIter, wRg1, wRg2, wEnum, wFor, wLc, wDc, wCat, wKeys, wPop, wReverse, wAppend, wEmp, wDictP, wSortI, wSortD, wLrg, wCallK, start3, List.map_cons, List.map_nil, List.cons_append, List.nil_append, List.getElem?_cons_zero, List.getElem?_cons_succ, List.set_cons_zero, List.set_cons_succ, List.length_cons, List.length_nil, List.replicate_succ, List.replicate_zero, Option.bind_some, Bool.true_xor, Bool.false_xor, Bool.xor_false, Bool.not_true, Bool.not_false, if_true, if_false, Bool.false_eq_true, wipeE, at1]
  exact ret_pre (List.prefix_append _ _) wf (enc_rat.1 _) (h lo' n ht)
end K75
set_option Elab.async false
set_option linter.all false
set_option maxRecDepth 100000
set_option maxHeartbeats 400000
namespace K75
open PySem PySem.Spec PyProof.Rows L2 Gx R3

/-! ### drawing a row -/
theorem Bag.ok.mono {B : Bag} {T T' : Nat} (h : B.ok T) (hT : T ≤ T') : B.ok T' := ⟨h.h0, h.t0, by have := h.tT; omega, h.gr, h.ne, h.ce⟩
theorem ret_bag {B B' : Bag} {rest G : Mem} {d : D} {R : D → Mem → Prop} (wf : wfM (bagM B ++ rest).length (bagM B ++ rest)) (hd : d.nl) (h : R d (bagM B' ++ rest)) : (ends3 (bagM B ++ rest).length R).rt d (bagM B' ++ rest ++ G) := by
  have hl : (bagM B ++ rest).length = (bagM B' ++ rest).length := by simp [bagM]
  have e : (bagM B' ++ rest ++ G).take (bagM B ++ rest).length = bagM B' ++ rest := by rw [hl]; exact take_pre
  have w := bag_wf wf B'
  rw [← hl] at w
  have := shr_take (n := (bagM B ++ rest).length) (M' := bagM B' ++ rest ++ G) (d := d) (by rw [hl]; simp) (by rw [e]; exact w) hd
  rw [e] at this
  exact ⟨_, _, this, h⟩
/-- a list of numbers by places -/
def fL (lo : Int) (xs : List Int) (p : Int) : Int := if lo ≤ p then xs.getD (p - lo).toNat 0 else 0
theorem fL_get {lo : Int} {xs : List Int} {k : Nat} {x : Int} (h : xs[k]? = some x) : fL lo xs (lo + (k : Int)) = x := by
  unfold fL
  rw [if_pos (by omega), show (lo + (k : Int) - lo).toNat = k by omega, List.getD_eq_getElem?_getD, h]
  rfl
theorem fL_out {lo : Int} {xs : List Int} {p : Int} (h : p < lo ∨ lo + xs.length ≤ p) : fL lo xs p = 0 := by
  unfold fL
  split
  · rw [List.getD_eq_getElem?_getD, List.getElem?_eq_none (by omega)]
    rfl
  · rfl
theorem fL_bd {lo : Int} {xs : List Int} {B : Nat} (h : ∀ x ∈ xs, x.natAbs ≤ B) (p : Int) : (fL lo xs p).natAbs ≤ B := by
  unfold fL
  split
  · rw [List.getD_eq_getElem?_getD]
    cases e : xs[(p - lo).toNat]? with
    | none => exact Nat.zero_le _
    | some x => exact h x (List.mem_of_getElem? e)
  · exact Nat.zero_le _
theorem first_fL (lo : Int) (xs : List Int) : firstD D.int (fL lo xs) lo xs.length = xs.map D.int := by
  refine List.ext_getElem? fun k => ?_
  by_cases hk : k < xs.length
  · rw [firstD_get hk, List.getElem?_map, List.getElem?_eq_getElem hk, fL_get (List.getElem?_eq_getElem hk)]
    rfl
  · rw [List.getElem?_eq_none (by rw [firstD_len]; omega), List.getElem?_eq_none (by rw [List.length_map]; omega)]
theorem rep_fL {lo : Int} {xs : List Int} (h0 : -1000 ≤ lo) (h1 : lo + xs.length ≤ 1001) (h2 : xs.length ≤ 1000) : Rep D.int 0 (fL lo xs) (numD lo (xs.map D.int)) := by
  have := rep_num (enc := D.int) (z := (0 : Int)) (f := fL lo xs) (lo := lo) (n := xs.length) h0 h1 h2 fun p hp => fL_out hp
  rw [← first_fL]
  exact this
theorem rowD_rowI (f : Int → Int) (lo : Int) (n : Nat) : rowD D.int f lo n = rowI lo ((List.range n).map fun (k : Nat) => f (lo + (k : Int))) := by
  unfold rowD rowI
  rw [List.map_map]
  rfl
def S_draw_row : SP3 := fun ds M R => ∃ (B : Bag) (T : Nat) (size : Int) (rest : Mem), ds = [.loc 2, .int 12, .int size] ∧ M = bagM B ++ rest ∧ B.ok T ∧ T < 2 ^ 63 ∧ 0 < size ∧ size ≤ 2 ^ 87 ∧
  ∀ (B' : Bag) lo xs, B'.ok (T + 20) → RowOk lo xs → R (rowI lo xs) (bagM B' ++ rest)
theorem P__law_draw_row : ∀ ds M R, wfM M.length M → S_draw_row ds M R → W__law_draw_row S_draw (S_row1 D.int (0 : Int)) (ends3 M.length R) (start3 N__law_draw_row ds) M := by
  rintro _ _ R wf ⟨B, T, size, rest, rfl, rfl, ok, hT, hs0, hs1, h⟩
  have hz : 3000 ≤ sizeLine := by rw [sizeLine_eq]; decide
  simp only [W__law_draw_row, N__law_draw_row, wSeq, wAsg, wCall, wCons, wNil, wVar, wC, wBin, wRet, wIfS, wTst, wGn, wPar, wPar3, wTup, wNeg, wCB, wNext, wNotT, wAndT, wOrT, wTru, wIf, wDrop, oAdd, oSub, oMul, oDiv, oMod, oPow, oI, oI0, oIB, oLt, oLe, oGt, oGe, oAt, oIx, oEq, oNe, oEqK, cAbs, cInt, cLen, wBrk, wCnt, wIsi, wAndV, wOrV, wNotV, D.ty, Ty.sub, D.truth, oIsK, D.isN, wRetN, wGsub, wGet2, D.key, wGcons, wGnil, wGtup, wTupL, wNew, wLst, wDNew, wYes, wIterT, wIter, wRg1, wRg2, wEnum, wFor, wLc, wDc, wCat, wKeys, wPop, wReverse, wAppend, wEmp, wDictP, wSortI, wSortD, wLrg, wCallK, start3, List.map_cons, List.map_nil, List.cons_append, List.nil_append, List.getElem?_cons_zero, List.getElem?_cons_succ, List.set_cons_zero, List.set_cons_succ, List.length_cons, List.length_nil, List.replicate_succ, List.replicate_zero, Option.bind_some, Bool.true_xor, Bool.false_xor, Bool.xor_false, Bool.not_true, Bool.not_false, if_true, if_false, Bool.false_eq_true, wipeE]
  refine ⟨B, T, 7, rest, rfl, rfl, ok, by omega, by decide, by decide, fun B1 st ok1 st0 st1 => ?_⟩
  simp only [wSeq, wAsg, wCall, wCons, wNil, wVar, wC, wBin, wRet, wIfS, wTst, wGn, wPar, wPar3, wTup, wNeg, wCB, wNext, wNotT, wAndT, wOrT, wTru, wIf, wDrop, oAdd, oSub, oMul, oDiv, oMod, oPow, oI, oI0, oIB, oLt, oLe, oGt, oGe, oAt, oIx, oEq, oNe, oEqK, cAbs, cInt, cLen, wBrk, wCnt, wIsi, wAndV, wOrV, wNotV, D.ty, Ty.sub, D.truth, oIsK, D.isN, wRetN, wGsub, wGet2, D.key, wGcons, wGnil, wGtup, wTupL, wNew, wLst, wDNew, wYes, wIterT, wIter, wRg1, wRg2, wEnum, wFor, wLc, wDc, wCat, wKeys, wPop, wReverse, wAppend, wEmp, wDictP, wSortI, wSortD, wLrg, wCallK, start3, List.map_cons, List.map_nil, List.cons_append, List.nil_append, List.getElem?_cons_zero, List.getElem?_cons_succ, List.set_cons_zero, List.set_cons_succ, List.length_cons, List.length_nil, List.replicate_succ, List.replicate_zero, Option.bind_some, Bool.true_xor, Bool.false_xor, Bool.xor_false, Bool.not_true, Bool.not_false, if_true, if_false, Bool.false_eq_true, wipeE]
  refine ⟨B1, T + 1, 12 + 1, rest, rfl, rfl, ok1, by omega, by decide, by decide, fun B2 n ok2 n0 n1 => ?_⟩
  simp only [wSeq, wAsg, wCall, wCons, wNil, wVar, wC, wBin, wRet, wIfS, wTst, wGn, wPar, wPar3, wTup, wNeg, wCB, wNext, wNotT, wAndT, wOrT, wTru, wIf, wDrop, oAdd, oSub, oMul, oDiv, oMod, oPow, oI, oI0, oIB, oLt, oLe, oGt, oGe, oAt, oIx, oEq, oNe, oEqK, cAbs, cInt, cLen, wBrk, wCnt, wIsi, wAndV, wOrV, wNotV, D.ty, Ty.sub, D.truth, oIsK, D.isN, wRetN, wGsub, wGet2, D.key, wGcons, wGnil, wGtup, wTupL, wNew, wLst, wDNew, wYes, wIterT, wIter, wRg1, wRg2, wEnum, wFor, wLc, wDc, wCat, wKeys, wPop, wReverse, wAppend, wEmp, wDictP, wSortI, wSortD, wLrg, wCallK, start3, List.map_cons, List.map_nil, List.cons_append, List.nil_append, List.getElem?_cons_zero, List.getElem?_cons_succ, List.set_cons_zero, List.set_cons_succ, List.length_cons, List.length_nil, List.replicate_succ, List.replicate_zero, Option.bind_some, Bool.true_xor, Bool.false_xor, Bool.xor_false, Bool.not_true, Bool.not_false, if_true, if_false, Bool.false_eq_true, wipeE]
  refine ⟨⟨by omega, by omega⟩, ?_⟩
  generalize hst : st - 3 = lo
  generalize hn : n.toNat = m
  refine lc_inv (fun L acc M' => ∃ (k : Nat) (B3 : Bag) (xs : List Int), k ≤ m ∧ M' = bagM B3 ++ rest ∧ B3.ok (T + 2 + k) ∧ L = (rgD 0 m).drop k ∧ acc = (numD lo (xs.map D.int)).map (fun p => .tup [kD p.1, p.2]) ∧ xs.length = k ∧ ∀ x ∈ xs, x.natAbs ≤ 2 ^ 88) (fun _ _ _ _ => trivial) ?_ ?_ _ _ _ ⟨0, B2, [], Nat.zero_le _, rfl, ok2, rfl, rfl, rfl, fun _ hx => by cases hx⟩
  · rintro acc M' ⟨k, B3, xs, hk, rfl, ok3, hL, rfl, hxl, hxb⟩
    have hk := rgD_nil hL hk
    rw [pairsD_map (fun p : Key × D => p), List.map_id']
    simp only [wSeq, wAsg, wCall, wCons, wNil, wVar, wC, wBin, wRet, wIfS, wTst, wGn, wPar, wPar3, wTup, wNeg, wCB, wNext, wNotT, wAndT, wOrT, wTru, wIf, wDrop, oAdd, oSub, oMul, oDiv, oMod, oPow, oI, oI0, oIB, oLt, oLe, oGt, oGe, oAt, oIx, oEq, oNe, oEqK, cAbs, cInt, cLen, wBrk, wCnt, wIsi, wAndV, wOrV, wNotV, D.ty, Ty.sub, D.truth, oIsK, D.isN, wRetN, wGsub, wGet2, D.key, wGcons, wGnil, wGtup, wTupL, wNew, wLst, wDNew, wYes, wIterT, wIter, wRg1, wRg2, wEnum, wFor, wLc, wDc, wCat, wKeys, wPop, wReverse, wAppend, wEmp, wDictP, wSortI, wSortD, wLrg, wCallK, start3, List.map_cons, List.map_nil, List.cons_append, List.nil_append, List.getElem?_cons_zero, List.getElem?_cons_succ, List.set_cons_zero, List.set_cons_succ, List.length_cons, List.length_nil, List.replicate_succ, List.replicate_zero, Option.bind_some, Bool.true_xor, Bool.false_xor, Bool.xor_false, Bool.not_true, Bool.not_false, if_true, if_false, Bool.false_eq_true, wipeE]
    rw [merge_nd _ _ (by rw [List.nil_append]; exact numD_nd _ _), List.nil_append]
    refine ⟨_, _, _, rfl, by rw [List.getElem?_append_right (Nat.le_refl _), Nat.sub_self]; rfl, rep_fL (by omega) (by omega) (by omega), fun lo2 n2 ht _ _ _ => ?_⟩
    refine ret_bag wf (rowD_nl enc_int.1 _ _ _) ?_
    rw [rowD_rowI]
    have hin : ∀ p, fL lo xs p ≠ 0 → lo ≤ p ∧ p < lo + xs.length := fun p hp => by
      refine Classical.byContradiction fun hn => hp (fL_out (by omega))
    have hb : -3 ≤ lo2 ∧ lo2 ≤ 20 ∧ n2 ≤ 20 := by
      rcases ht with ⟨rfl, rfl, _⟩ | ⟨a1, a2, a3, _⟩
      · omega
      · have b1 := hin _ a2
        have b2 := hin _ a3
        omega
    refine h B3 _ _ (ok3.mono (by omega)) ⟨by omega, by omega, by rw [List.length_map, List.length_range]; omega, fun x hx => ?_⟩
    obtain ⟨j, _, rfl⟩ := List.mem_map.mp hx
    exact fL_bd hxb _
  · rintro d L acc M' Q ⟨k, B3, xs, hk, rfl, ok3, hL, rfl, hxl, hxb⟩ hQ
    obtain ⟨hkn, rfl, hL2⟩ := rgD_drop hL
    simp only [wSeq, wAsg, wCall, wCons, wNil, wVar, wC, wBin, wRet, wIfS, wTst, wGn, wPar, wPar3, wTup, wNeg, wCB, wNext, wNotT, wAndT, wOrT, wTru, wIf, wDrop, oAdd, oSub, oMul, oDiv, oMod, oPow, oI, oI0, oIB, oLt, oLe, oGt, oGe, oAt, oIx, oEq, oNe, oEqK, cAbs, cInt, cLen, wBrk, wCnt, wIsi, wAndV, wOrV, wNotV, D.ty, Ty.sub, D.truth, oIsK, D.isN, wRetN, wGsub, wGet2, D.key, wGcons, wGnil, wGtup, wTupL, wNew, wLst, wDNew, wYes, wIterT, wIter, wRg1, wRg2, wEnum, wFor, wLc, wDc, wCat, wKeys, wPop, wReverse, wAppend, wEmp, wDictP, wSortI, wSortD, wLrg, wCallK, start3, List.map_cons, List.map_nil, List.cons_append, List.nil_append, List.getElem?_cons_zero, List.getElem?_cons_succ, List.set_cons_zero, List.set_cons_succ, List.length_cons, List.length_nil, List.replicate_succ, List.replicate_zero, Option.bind_some, Bool.true_xor, Bool.false_xor, Bool.xor_false, Bool.not_true, Bool.not_false, if_true, if_false, Bool.false_eq_true, wipeE]
    refine ⟨mulW (by decide) (by omega), B3, T + 2 + k, 2 * size + 1, rest, rfl, rfl, ok3, by omega, by omega, by omega, fun B4 d ok4 d0 d1 => ?_⟩
    simp only [wSeq, wAsg, wCall, wCons, wNil, wVar, wC, wBin, wRet, wIfS, wTst, wGn, wPar, wPar3, wTup, wNeg, wCB, wNext, wNotT, wAndT, wOrT, wTru, wIf, wDrop, oAdd, oSub, oMul, oDiv, oMod, oPow, oI, oI0, oIB, oLt, oLe, oGt, oGe, oAt, oIx, oEq, oNe, oEqK, cAbs, cInt, cLen, wBrk, wCnt, wIsi, wAndV, wOrV, wNotV, D.ty, Ty.sub, D.truth, oIsK, D.isN, wRetN, wGsub, wGet2, D.key, wGcons, wGnil, wGtup, wTupL, wNew, wLst, wDNew, wYes, wIterT, wIter, wRg1, wRg2, wEnum, wFor, wLc, wDc, wCat, wKeys, wPop, wReverse, wAppend, wEmp, wDictP, wSortI, wSortD, wLrg, wCallK, start3, List.map_cons, List.map_nil, List.cons_append, List.nil_append, List.getElem?_cons_zero, List.getElem?_cons_succ, List.set_cons_zero, List.set_cons_succ, List.length_cons, List.length_nil, List.replicate_succ, List.replicate_zero, Option.bind_some, Bool.true_xor, Bool.false_xor, Bool.xor_false, Bool.not_true, Bool.not_false, if_true, if_false, Bool.false_eq_true, wipeE]
    refine ⟨by omega, by rw [List.length_map, numD_len, List.length_map]; omega, hQ _ _ ⟨k + 1, B4, xs ++ [d - size], hkn, rfl, ok4, hL2, ?_, by simp [hxl], fun x hx => ?_⟩⟩
    · rw [List.map_append, List.map_cons, List.map_nil, numD_snoc, List.map_append, List.length_map, hxl, Int.zero_add]
      rfl
    · rcases List.mem_append.mp hx with hx | hx
      · exact hxb x hx
      · rw [List.mem_singleton.mp hx]
        omega
end K75
set_option Elab.async false
set_option linter.all false
set_option maxRecDepth 100000
set_option maxHeartbeats 400000
namespace K75
open PySem PySem.Spec PyProof.Rows L2 Gx R3

/-! ### drawing a sum -/
theorem putD_keys {κ α : Type} [DecidableEq κ] {m : List (κ × α)} {k0 : κ} {v : α} (k : κ) : k ∈ (putD m k0 v).map (·.1) ↔ k = k0 ∨ k ∈ m.map (·.1) := by
  unfold putD
  split
  · rename_i h
    obtain ⟨q, h1, h2⟩ := List.any_eq_true.mp h
    have h3 : (m.map fun kv => if kv.1 = k0 then (kv.1, v) else kv).map (·.1) = m.map (·.1) := by
      rw [List.map_map]
      refine List.map_congr_left fun q hq => ?_
      simp only [Function.comp]
      split <;> rfl
    rw [h3]
    refine ⟨.inr, fun h => h.elim (fun e => ?_) fun z => z⟩
    rw [e, ← of_decide_eq_true h2]
    exact List.mem_map_of_mem h1
  · rw [List.map_append, List.mem_append]
    simp only [List.map_cons, List.map_nil, List.mem_singleton]
    exact Or.comm
theorem intKeys_rep {α : Type} {enc : α → D} {f : Int → α} : ∀ {m : List (Key × D)}, (∀ p ∈ m, ∃ i : Int, p.1 = .inl i ∧ p.2 = enc (f i)) → ∃ ks, intKeys m = some ks ∧ ks.length = m.length ∧ ∀ i ∈ ks, (Sum.inl i : Key) ∈ m.map (·.1)
  | [], _ => ⟨[], rfl, rfl, fun _ h => by cases h⟩
  | (k, d) :: r, h => by
    obtain ⟨i, e1, _⟩ := h _ List.mem_cons_self
    cases e1
    obtain ⟨ks, h1, h2, h3⟩ := intKeys_rep (m := r) fun p hp => h p (List.mem_cons_of_mem _ hp)
    refine ⟨i :: ks, ?_, by simp [h2], fun j hj => ?_⟩
    · unfold intKeys
      rw [h1]
      rfl
    · rw [List.map_cons]
      rcases List.mem_cons.mp hj with rfl | hj
      · exact List.mem_cons_self
      · exact List.mem_cons_of_mem _ (h3 j hj)
theorem okT_div {a b : Int} (ha : a.natAbs ≤ 16) (hb : 0 < b) (hd : b ∣ 1260) : OkT (Rat.divInt a b) := by
  have h := qD_divInt (a := a) hb
  unfold qD at h
  injection h with h
  injection h with h2 h3
  injection h2 with h2
  injection h3 with h3 _
  injection h3 with h3
  unfold OkT
  rw [← h2]
  refine ⟨?_, Nat.le_trans (ediv_abs _ _) ha⟩
  have e1 : (((Rat.divInt a b).den : Nat) : Int) ∣ ((1260 : Nat) : Int) := by
    rw [← h3]
    refine Int.dvd_trans ?_ hd
    exact ⟨(Int.gcd a b : Int), (Int.ediv_mul_cancel (Int.gcd_dvd_right ..)).symm⟩
  exact Int.natCast_dvd_natCast.mp e1
theorem okT_zero : OkT 0 := ⟨⟨1260, rfl⟩, by decide⟩
def S_sum : SP3 := fun ds M R => ∃ (B : Bag) (T n : Nat) (bl : List Int) (rest : Mem), ds = [.loc 2, .int 4, .int 3, .loc n, .int 9] ∧ M = bagM B ++ rest ∧ B.ok T ∧ T < 2 ^ 63 ∧ M[n]? = some (.lst (bl.map .int)) ∧ 3 ≤ n ∧ bl ≠ [] ∧ bl.length < 2 ^ 24 ∧ (∀ x ∈ bl, 0 < x ∧ x ∣ 1260) ∧
  ∀ (B' : Bag) s, B'.ok (T + 20) → SumOk s → R (sD s) (bagM B' ++ rest)
def sum_ret : WS := (wRet (wTupL (wLc [8] (wIter (wNew (wSortD (wVar 5)))) (wGn 8) wYes (wTup (wCons (wVar 8) (wCons (wBin oAt (wVar 5) (wVar 8)) wNil))))))
theorem sum_ret_ok {B B' : Bag} {rest : Mem} {R : D → Mem → Prop} {m : List (Key × D)} {g : Int → Rat} {x0 x1 x2 x3 x4 x6 x7 x8 : Option D} (wf : wfM (bagM B ++ rest).length (bagM B ++ rest)) (r : Rep qD 0 g m) (hm : m.length ≤ 8) (hk : ∀ i : Int, (Sum.inl i : Key) ∈ m.map (·.1) → -50 ≤ i ∧ i ≤ 50) (hg : ∀ p, OkT (g p)) (h : ∀ s, SumOk s → R (sD s) (bagM B' ++ rest)) :
    sum_ret (ends3 (bagM B ++ rest).length R) [x0, x1, x2, x3, x4, some (.loc (bagM B ++ rest).length), x6, x7, x8] (bagM B' ++ (rest ++ [.dK m])) := by
  have hz : 3000 ≤ sizeLine := by rw [sizeLine_eq]; decide
  have hl : (bagM B ++ rest).length = (bagM B' ++ rest).length := by simp [bagM]
  rw [← List.append_assoc]
  have ht : tblAt (bagM B' ++ rest ++ [Ob.dK m]) (bagM B ++ rest).length = some m := by
    unfold tblAt
    rw [hl, List.getElem?_append_right (Nat.le_refl _), Nat.sub_self]
    rfl
  obtain ⟨ks, k1, k2, k3⟩ := intKeys_rep r.key
  unfold sum_ret
  simp only [wSeq, wAsg, wCall, wCons, wNil, wVar, wC, wBin, wRet, wIfS, wTst, wGn, wPar, wPar3, wTup, wNeg, wCB, wNext, wNotT, wAndT, wOrT, wTru, wIf, wDrop, oAdd, oSub, oMul, oDiv, oMod, oPow, oI, oI0, oIB, oLt, oLe, oGt, oGe, oAt, oIx, oEq, oNe, oEqK, cAbs, cInt, cLen, wBrk, wCnt, wIsi, wAndV, wOrV, wNotV, D.ty, Ty.sub, D.truth, oIsK, D.isN, wRetN, wGsub, wGet2, D.key, wGcons, wGnil, wGtup, wTupL, wNew, wLst, wDNew, wYes, wIterT, wIter, wRg1, wRg2, wEnum, wFor, wLc, wDc, wCat, wKeys, wPop, wReverse, wAppend, wEmp, wDictP, wSortI, wSortD, wLrg, wCallK, start3, List.map_cons, List.map_nil, List.cons_append, List.nil_append, List.getElem?_cons_zero, List.getElem?_cons_succ, List.set_cons_zero, List.set_cons_succ, List.length_cons, List.length_nil, List.replicate_succ, List.replicate_zero, Option.bind_some, Bool.true_xor, Bool.false_xor, Bool.xor_false, Bool.not_true, Bool.not_false, if_true, if_false, Bool.false_eq_true, wipeE, ht, k1]
  refine ⟨by omega, fun ys hp hs => ?_⟩
  have hyl : ys.length ≤ 8 := by rw [hp.length_eq]; omega
  have hob : (bagM B' ++ rest ++ [Ob.dK m] ++ [Ob.lst (ys.map D.int)])[(bagM B' ++ rest ++ [Ob.dK m]).length]? = some (.lst (ys.map .int)) := by
    rw [List.getElem?_append_right (Nat.le_refl _), Nat.sub_self]
    rfl
  have ht2 : tblAt (bagM B' ++ rest ++ [Ob.dK m] ++ [Ob.lst (ys.map D.int)]) (bagM B ++ rest).length = some m := by
    unfold tblAt
    rw [hl, List.getElem?_append_left (by simp), List.getElem?_append_right (Nat.le_refl _), Nat.sub_self]
    rfl
  simp only [hob]
  refine lc_pure (fun d => match d with | .int i => some (.tup [.int i, qD (g i)]) | _ => none) hob _ _ (fun d hd K1 K2 h1 h2 => ?_) (by simp only [List.length_nil, List.length_map]; omega) ?_
  · obtain ⟨i, hi, rfl⟩ := List.mem_map.mp hd
    have hin := k3 i (hp.mem_iff.mp hi)
    have hval : valD m (.inl i) = some (qD (g i)) := by
      rcases r.val i with e | ⟨e, _⟩
      · exact e
      · exact ((valD_none e) hin).elim
    simp only [wSeq, wAsg, wCall, wCons, wNil, wVar, wC, wBin, wRet, wIfS, wTst, wGn, wPar, wPar3, wTup, wNeg, wCB, wNext, wNotT, wAndT, wOrT, wTru, wIf, wDrop, oAdd, oSub, oMul, oDiv, oMod, oPow, oI, oI0, oIB, oLt, oLe, oGt, oGe, oAt, oIx, oEq, oNe, oEqK, cAbs, cInt, cLen, wBrk, wCnt, wIsi, wAndV, wOrV, wNotV, D.ty, Ty.sub, D.truth, oIsK, D.isN, wRetN, wGsub, wGet2, D.key, wGcons, wGnil, wGtup, wTupL, wNew, wLst, wDNew, wYes, wIterT, wIter, wRg1, wRg2, wEnum, wFor, wLc, wDc, wCat, wKeys, wPop, wReverse, wAppend, wEmp, wDictP, wSortI, wSortD, wLrg, wCallK, start3, List.map_cons, List.map_nil, List.cons_append, List.nil_append, List.getElem?_cons_zero, List.getElem?_cons_succ, List.set_cons_zero, List.set_cons_succ, List.length_cons, List.length_nil, List.replicate_succ, List.replicate_zero, Option.bind_some, Bool.true_xor, Bool.false_xor, Bool.xor_false, Bool.not_true, Bool.not_false, if_true, if_false, Bool.false_eq_true, wipeE, ht2, hval]
    exact ⟨by omega, h1 _ rfl⟩
  · rw [List.nil_append]
    have e : (ys.map D.int).filterMap (fun d => match d with | .int i => some (D.tup [.int i, qD (g i)]) | _ => none) = (ys.map fun i => (i, g i)).map tapD := by
      rw [List.filterMap_map, List.map_map, ← List.filterMap_eq_map]
      rfl
    rw [e, List.append_assoc (bagM B' ++ rest)]
    refine ret_bag wf ?_ (h _ ⟨by rw [List.length_map]; exact hyl, fun t ht => ?_, fun t ht => ?_⟩)
    · exact nls_map tapD (fun _ => ⟨trivial, enc_rat.1 _, trivial⟩) _
    · obtain ⟨i, hi, rfl⟩ := List.mem_map.mp ht
      exact hk i (k3 i (hp.mem_iff.mp hi))
    · obtain ⟨i, hi, rfl⟩ := List.mem_map.mp ht
      exact hg i
theorem P__law_sum : ∀ ds M R, wfM M.length M → S_sum ds M R → W__law_sum S_draw S_lowest S_pick (ends3 M.length R) (start3 N__law_sum ds) M := by
  rintro _ _ R wf ⟨B, T, n, bl, rest, rfl, rfl, ok, hT, hn, hn3, hbl, hbl2, hbd, h⟩
  have hz : 3000 ≤ sizeLine := by rw [sizeLine_eq]; decide
  show (wSeq (wAsg wDNew (wGn 5))
  (wSeq (wFor (wRg1 (wCons (wBin oAdd (wC (.int 1)) (wCall S_draw (wCons (wVar 0) (wCons (wVar 1) wNil)))) wNil)) (wGn 6)
  (wSeq (wAsg (wBin oAdd (wC (.int 1)) (wCall S_draw (wCons (wVar 0) (wCons (wVar 4) wNil)))) (wGn 7))
  (wAsg (wCall S_lowest (wCons (wIf (wTst (wBin oEq (wCall S_draw (wCons (wVar 0) (wCons (wC (.int 2)) wNil))) (wC (.int 0)))) (wVar 7) (wBin oSub (wC (.int 0)) (wVar 7))) (wCons (wCall S_pick (wCons (wVar 0) (wCons (wVar 3) wNil))) wNil))) (wGsub (wVar 5) (wBin oSub (wCall S_draw (wCons (wVar 0) (wCons (wBin oAdd (wBin oMul (wC (.int 2)) (wVar 2)) (wC (.int 1))) wNil))) (wVar 2))))))
  sum_ret)) _ _ _
  generalize hX : sum_ret = X
  simp only [N__law_sum, wSeq, wAsg, wCall, wCons, wNil, wVar, wC, wBin, wRet, wIfS, wTst, wGn, wPar, wPar3, wTup, wNeg, wCB, wNext, wNotT, wAndT, wOrT, wTru, wIf, wDrop, oAdd, oSub, oMul, oDiv, oMod, oPow, oI, oI0, oIB, oLt, oLe, oGt, oGe, oAt, oIx, oEq, oNe, oEqK, cAbs, cInt, cLen, wBrk, wCnt, wIsi, wAndV, wOrV, wNotV, D.ty, Ty.sub, D.truth, oIsK, D.isN, wRetN, wGsub, wGet2, D.key, wGcons, wGnil, wGtup, wTupL, wNew, wLst, wDNew, wYes, wIterT, wIter, wRg1, wRg2, wEnum, wFor, wLc, wDc, wCat, wKeys, wPop, wReverse, wAppend, wEmp, wDictP, wSortI, wSortD, wLrg, wCallK, start3, List.map_cons, List.map_nil, List.cons_append, List.nil_append, List.getElem?_cons_zero, List.getElem?_cons_succ, List.set_cons_zero, List.set_cons_succ, List.length_cons, List.length_nil, List.replicate_succ, List.replicate_zero, Option.bind_some, Bool.true_xor, Bool.false_xor, Bool.xor_false, Bool.not_true, Bool.not_false, if_true, if_false, Bool.false_eq_true, wipeE, List.append_assoc]
  refine ⟨B, T, 4, rest ++ [.dK []], rfl, rfl, ok, by omega, by decide, by decide, fun B1 c ok1 c0 c1 => ?_⟩
  simp only [wSeq, wAsg, wCall, wCons, wNil, wVar, wC, wBin, wRet, wIfS, wTst, wGn, wPar, wPar3, wTup, wNeg, wCB, wNext, wNotT, wAndT, wOrT, wTru, wIf, wDrop, oAdd, oSub, oMul, oDiv, oMod, oPow, oI, oI0, oIB, oLt, oLe, oGt, oGe, oAt, oIx, oEq, oNe, oEqK, cAbs, cInt, cLen, wBrk, wCnt, wIsi, wAndV, wOrV, wNotV, D.ty, Ty.sub, D.truth, oIsK, D.isN, wRetN, wGsub, wGet2, D.key, wGcons, wGnil, wGtup, wTupL, wNew, wLst, wDNew, wYes, wIterT, wIter, wRg1, wRg2, wEnum, wFor, wLc, wDc, wCat, wKeys, wPop, wReverse, wAppend, wEmp, wDictP, wSortI, wSortD, wLrg, wCallK, start3, List.map_cons, List.map_nil, List.cons_append, List.nil_append, List.getElem?_cons_zero, List.getElem?_cons_succ, List.set_cons_zero, List.set_cons_succ, List.length_cons, List.length_nil, List.replicate_succ, List.replicate_zero, Option.bind_some, Bool.true_xor, Bool.false_xor, Bool.xor_false, Bool.not_true, Bool.not_false, if_true, if_false, Bool.false_eq_true, wipeE]
  refine ⟨⟨by omega, by omega⟩, ?_⟩
  generalize hc : (1 + c).toNat = cc
  have hnl : n < (bagM B ++ rest).length := (List.getElem?_eq_some_iff.mp hn).1
  have hget : ∀ (B' : Bag) (m : List (Key × D)), (bagM B' ++ (rest ++ [Ob.dK m]))[n]? = some (.lst (bl.map .int)) := fun B' m => by
    rw [bag_get (B' := B) hn3, ← List.append_assoc, List.getElem?_append_left hnl]
    exact hn
  have hdk : ∀ (B' : Bag) (m : List (Key × D)), (bagM B' ++ (rest ++ [Ob.dK m]))[(bagM B ++ rest).length]? = some (.dK m) := fun B' m => by
    rw [← List.append_assoc, show (bagM B ++ rest).length = (bagM B' ++ rest).length by simp [bagM], List.getElem?_append_right (Nat.le_refl _), Nat.sub_self]
    rfl
  have hset : ∀ (B' : Bag) (m m' : List (Key × D)), (bagM B' ++ (rest ++ [Ob.dK m])).set (bagM B ++ rest).length (.dK m') = bagM B' ++ (rest ++ [Ob.dK m']) := fun B' m m' => by
    rw [← List.append_assoc, show (bagM B ++ rest).length = (bagM B' ++ rest).length by simp [bagM], List.set_append_right _ _ (Nat.le_refl _), Nat.sub_self, List.append_assoc]
    rfl
  refine for_inv (fun L env M' => ∃ (k : Nat) (B' : Bag) (m : List (Key × D)) (g : Int → Rat) (e6 e7 e8 : Option D), k ≤ cc ∧ L = (rgD 0 cc).drop k ∧ env = [some (.loc 2), some (.int 4), some (.int 3), some (.loc n), some (.int 9), some (.loc (bagM B ++ rest).length), e6, e7, e8] ∧ M' = bagM B' ++ (rest ++ [.dK m]) ∧ B'.ok (T + 1 + 4 * k) ∧ Rep qD 0 g m ∧ m.length ≤ k ∧ (∀ i : Int, (Sum.inl i : Key) ∈ m.map (·.1) → -50 ≤ i ∧ i ≤ 50) ∧ ∀ p, OkT (g p))
    (fun _ _ _ _ => trivial) ?_ ?_ _ _ _ ⟨0, B1, [], fun _ => 0, none, none, none, Nat.zero_le _, rfl, rfl, rfl, ok1, ⟨fun p hp => (by cases hp), List.nodup_nil, fun _ _ => rfl, fun i hi => (by cases hi), Nat.zero_le _⟩, Nat.le_refl _, fun i hi => (by cases hi), fun _ => okT_zero⟩
  · rintro env M' ⟨k, B', m, g, e6, e7, e8, hk, hL, rfl, rfl, ok', hr, hm, hkk, hg⟩
    have hk := rgD_nil hL hk
    subst hX
    exact sum_ret_ok wf hr (by omega) hkk hg fun s hs => h B' s (ok'.mono (by omega)) hs
  · rintro d L env M' E' ⟨k, B', m, g, e6, e7, e8, hk, hL, rfl, rfl, ok', hr, hm, hkk, hg⟩ hnx hct hrt hbk
    obtain ⟨hkn, rfl, hL2⟩ := rgD_drop hL
    simp only [wSeq, wAsg, wCall, wCons, wNil, wVar, wC, wBin, wRet, wIfS, wTst, wGn, wPar, wPar3, wTup, wNeg, wCB, wNext, wNotT, wAndT, wOrT, wTru, wIf, wDrop, oAdd, oSub, oMul, oDiv, oMod, oPow, oI, oI0, oIB, oLt, oLe, oGt, oGe, oAt, oIx, oEq, oNe, oEqK, cAbs, cInt, cLen, wBrk, wCnt, wIsi, wAndV, wOrV, wNotV, D.ty, Ty.sub, D.truth, oIsK, D.isN, wRetN, wGsub, wGet2, D.key, wGcons, wGnil, wGtup, wTupL, wNew, wLst, wDNew, wYes, wIterT, wIter, wRg1, wRg2, wEnum, wFor, wLc, wDc, wCat, wKeys, wPop, wReverse, wAppend, wEmp, wDictP, wSortI, wSortD, wLrg, wCallK, start3, List.map_cons, List.map_nil, List.cons_append, List.nil_append, List.getElem?_cons_zero, List.getElem?_cons_succ, List.set_cons_zero, List.set_cons_succ, List.length_cons, List.length_nil, List.replicate_succ, List.replicate_zero, Option.bind_some, Bool.true_xor, Bool.false_xor, Bool.xor_false, Bool.not_true, Bool.not_false, if_true, if_false, Bool.false_eq_true, wipeE]
    refine ⟨B', _, 9, rest ++ [.dK m], rfl, rfl, ok', by omega, by decide, by decide, fun B2 top ok2 t0 t1 => ?_⟩
    simp only [wSeq, wAsg, wCall, wCons, wNil, wVar, wC, wBin, wRet, wIfS, wTst, wGn, wPar, wPar3, wTup, wNeg, wCB, wNext, wNotT, wAndT, wOrT, wTru, wIf, wDrop, oAdd, oSub, oMul, oDiv, oMod, oPow, oI, oI0, oIB, oLt, oLe, oGt, oGe, oAt, oIx, oEq, oNe, oEqK, cAbs, cInt, cLen, wBrk, wCnt, wIsi, wAndV, wOrV, wNotV, D.ty, Ty.sub, D.truth, oIsK, D.isN, wRetN, wGsub, wGet2, D.key, wGcons, wGnil, wGtup, wTupL, wNew, wLst, wDNew, wYes, wIterT, wIter, wRg1, wRg2, wEnum, wFor, wLc, wDc, wCat, wKeys, wPop, wReverse, wAppend, wEmp, wDictP, wSortI, wSortD, wLrg, wCallK, start3, List.map_cons, List.map_nil, List.cons_append, List.nil_append, List.getElem?_cons_zero, List.getElem?_cons_succ, List.set_cons_zero, List.set_cons_succ, List.length_cons, List.length_nil, List.replicate_succ, List.replicate_zero, Option.bind_some, Bool.true_xor, Bool.false_xor, Bool.xor_false, Bool.not_true, Bool.not_false, if_true, if_false, Bool.false_eq_true, wipeE]
    refine ⟨B2, _, 2, rest ++ [.dK m], rfl, rfl, ok2, by omega, by decide, by decide, fun B3 sg ok3 sg0 sg1 => ?_⟩
    have body : ∀ a : Int, a.natAbs ≤ 16 → ∀ Q : D → Mem → Prop, (∀ (B4 : Bag) (q : Rat), B4.ok (T + 1 + 4 * k + 3) → OkT q → Q (qD q) (bagM B4 ++ (rest ++ [.dK m]))) → S_pick [.loc 2, .loc n] (bagM B3 ++ (rest ++ [.dK m])) fun d M2 => S_lowest [.int a, d] M2 Q := fun a ha Q hQ => by
      refine ⟨B3, _, n, bl.map .int, rest ++ [.dK m], rfl, rfl, ok3, by omega, hget _ _, hn3, by simpa using hbl, by rw [List.length_map]; exact hbl2, fun d hd => ?_, fun B4 ok4 d hd => ?_⟩
      · obtain ⟨x, _, rfl⟩ := List.mem_map.mp hd
        exact trivial
      obtain ⟨b, hb, rfl⟩ := List.mem_map.mp hd
      obtain ⟨b0, b1⟩ := hbd b hb
      have b2 : b ≤ 1260 := Int.le_of_dvd (by decide) b1
      exact ⟨a, b, rfl, b0, by omega, hQ B4 _ ok4 (okT_div ha b0 b1)⟩
    simp only [wSeq, wAsg, wCall, wCons, wNil, wVar, wC, wBin, wRet, wIfS, wTst, wGn, wPar, wPar3, wTup, wNeg, wCB, wNext, wNotT, wAndT, wOrT, wTru, wIf, wDrop, oAdd, oSub, oMul, oDiv, oMod, oPow, oI, oI0, oIB, oLt, oLe, oGt, oGe, oAt, oIx, oEq, oNe, oEqK, cAbs, cInt, cLen, wBrk, wCnt, wIsi, wAndV, wOrV, wNotV, D.ty, Ty.sub, D.truth, oIsK, D.isN, wRetN, wGsub, wGet2, D.key, wGcons, wGnil, wGtup, wTupL, wNew, wLst, wDNew, wYes, wIterT, wIter, wRg1, wRg2, wEnum, wFor, wLc, wDc, wCat, wKeys, wPop, wReverse, wAppend, wEmp, wDictP, wSortI, wSortD, wLrg, wCallK, start3, List.map_cons, List.map_nil, List.cons_append, List.nil_append, List.getElem?_cons_zero, List.getElem?_cons_succ, List.set_cons_zero, List.set_cons_succ, List.length_cons, List.length_nil, List.replicate_succ, List.replicate_zero, Option.bind_some, Bool.true_xor, Bool.false_xor, Bool.xor_false, Bool.not_true, Bool.not_false, if_true, if_false, Bool.false_eq_true, wipeE, decide_eq_true_eq]
    by_cases h0 : sg = 0
    all_goals first
      | rw [if_pos h0]
        refine body (1 + top) (by omega) _ fun B4 q ok4 hq => ?_
      | rw [if_neg h0]
        refine body (0 - (1 + top)) (by omega) _ fun B4 q ok4 hq => ?_
    all_goals
      refine ⟨mulW (by decide) (by decide), B4, _, 2 * 3 + 1, rest ++ [.dK m], rfl, rfl, ok4, by omega, by decide, by decide, fun B5 sh ok5 sh0 sh1 => ?_⟩
      simp only [hdk, hset, wSeq, wAsg, wCall, wCons, wNil, wVar, wC, wBin, wRet, wIfS, wTst, wGn, wPar, wPar3, wTup, wNeg, wCB, wNext, wNotT, wAndT, wOrT, wTru, wIf, wDrop, oAdd, oSub, oMul, oDiv, oMod, oPow, oI, oI0, oIB, oLt, oLe, oGt, oGe, oAt, oIx, oEq, oNe, oEqK, cAbs, cInt, cLen, wBrk, wCnt, wIsi, wAndV, wOrV, wNotV, D.ty, Ty.sub, D.truth, oIsK, D.isN, wRetN, wGsub, wGet2, D.key, wGcons, wGnil, wGtup, wTupL, wNew, wLst, wDNew, wYes, wIterT, wIter, wRg1, wRg2, wEnum, wFor, wLc, wDc, wCat, wKeys, wPop, wReverse, wAppend, wEmp, wDictP, wSortI, wSortD, wLrg, wCallK, start3, List.map_cons, List.map_nil, List.cons_append, List.nil_append, List.getElem?_cons_zero, List.getElem?_cons_succ, List.set_cons_zero, List.set_cons_succ, List.length_cons, List.length_nil, List.replicate_succ, List.replicate_zero, Option.bind_some, Bool.true_xor, Bool.false_xor, Bool.xor_false, Bool.not_true, Bool.not_false, if_true, if_false, Bool.false_eq_true, wipeE]
      have hp1 := hr.put (p := sh - 3) q (by omega) (by omega)
      refine ⟨by omega, hnx _ _ ⟨k + 1, B5, _, _, _, _, _, hkn, hL2, rfl, rfl, ok5.mono (by omega), hp1, ?_, fun i hi => ?_, fun p => ?_⟩⟩
      · have := putD_len m (Sum.inl (sh - 3)) (qD q)
        omega
      · rcases (putD_keys _).mp hi with e | e
        · have := Sum.inl.inj e
          omega
        · exact hkk i e
      · unfold updF
        split
        · exact hq
        · exact hg p
end K75
set_option Elab.async false
set_option linter.all false
set_option maxRecDepth 100000
set_option maxHeartbeats 400000
namespace K75
open PySem PySem.Spec PyProof.Rows L2 Gx R3

/-! ### the law's own handing on -/
theorem app_get (M l : Mem) (j : Nat) : (M ++ l)[M.length + j]? = l[j]? := by
  rw [List.getElem?_append_right (by omega), show M.length + j - M.length = j by omega]
theorem app_get0 (M l : Mem) : (M ++ l)[M.length]? = l[0]? := app_get M l 0
theorem app_set (M l : Mem) (j : Nat) (x : Ob) : (M ++ l).set (M.length + j) x = M ++ l.set j x := by
  rw [List.set_append_right _ _ (by omega), show M.length + j - M.length = j by omega]
def S__law_handed : SP3 := fun ds M R => ∃ (s : List (Int × Rat)) (rule : Str) (lo : Int) (xs : List Int), ds = [sD s, .str rule, rowI lo xs] ∧ SumOk s ∧ RowOk lo xs ∧
  ∀ lo' n lo2 n2, Trim 0 (FF lo xs s) lo' n → Trim 0 (hF rule (FF lo xs s) lo' n) lo2 n2 → R (.tup [rowD D.int (hF rule (FF lo xs s) lo' n) lo2 n2, qD (lft rule (FF lo xs s) lo' n)]) M
def lh_body (S__law_plus S__law_round : SP3) : WS := (wSeq (wAsg (wCall S__law_plus (wCons (wVar 7) (wCons (wGet2 (wVar 3) (wVar 5) (wTup (wCons (wC (.int 0)) (wCons (wC (.int 1)) wNil)))) wNil))) (wGn 7))
  (wSeq (wAsg (wCall S__law_round (wCons (wVar 1) (wCons (wBin oAt (wVar 7) (wC (.int 0))) (wCons (wBin oAt (wVar 7) (wC (.int 1))) wNil)))) (wGn 9))
  (wSeq (wAsg (wBin oSub (wVar 9) (wVar 8)) (wGsub (wVar 6) (wVar 5)))
  (wAsg (wVar 9) (wGn 8)))))
def lh_ret (S__law_fr S__law_row : SP3) : WS := (wRet (wTup (wCons (wCall S__law_row (wCons (wVar 6) wNil)) (wCons (wCall S__law_fr (wCons (wBin oSub (wBin oAt (wVar 7) (wC (.int 0))) (wBin oMul (wVar 8) (wBin oAt (wVar 7) (wC (.int 1))))) (wCons (wBin oAt (wVar 7) (wC (.int 1))) wNil))) wNil))))
def lh_tail (S__law_plus S__law_round S__law_fr S__law_row : SP3) : WS := (wSeq (wPar3 6 7 8 (wCons wDNew (wCons (wTup (wCons (wC (.int 0)) (wCons (wC (.int 1)) wNil))) (wCons (wC (.int 0)) wNil))))
  (wSeq (wFor (wIter (wIf (wEmp true (wVar 4)) (wNew (wLrg (wBin oAt (wVar 4) (wC (.int 0))) (wBin oAdd (wBin oAt (wVar 4) (wNeg (wC (.int 1)))) (wC (.int 1))))) (wNew (wLst wNil)))) (wGn 5)
  (lh_body S__law_plus S__law_round))
  (lh_ret S__law_fr S__law_row)))
section
variable {M : Mem} {rule : Str} {F : Int → Rat} {m : List (Key × D)} {lo : Int} {n : Nat} {a : Ob} {x0 x2 x4 : Option D}
theorem lh_loop (r : Rep qD 0 F m) (hF1 : ∀ p, OkV (2 ^ 112) (F p)) (h2 : n ≤ 230) {E : Ends3} (hE : ∀ e5 e9, E.nx [x0, some (.str rule), x2, some (.loc M.length), x4, e5, some (.loc (M.length + 2)), some (qD (cum F lo n)), some (.int (nwk rule F lo n)), e9] (M ++ [.dK m, a, .dK (numD lo (firstD D.int (hF rule F lo n) lo n)), .lst (rgD lo n)])) (e5 e9 : Option D) :
    forW (fun M' => M'[M.length + 3]? = some (.lst (rgD lo n))) (wGn 5) (lh_body (S_pm (· + ·)) S_rnd) E (rgD lo n) [x0, some (.str rule), x2, some (.loc M.length), x4, e5, some (.loc (M.length + 2)), some (qD 0), some (.int 0), e9] (M ++ [.dK m, a, .dK [], .lst (rgD lo n)]) := by
  have hz : 3000 ≤ sizeLine := by rw [sizeLine_eq]; decide
  refine for_inv (fun L env M' => ∃ (k : Nat) (e5 e9 : Option D), k ≤ n ∧ L = (rgD lo n).drop k ∧ env = [x0, some (.str rule), x2, some (.loc M.length), x4, e5, some (.loc (M.length + 2)), some (qD (cum F lo k)), some (.int (nwk rule F lo k)), e9] ∧ M' = M ++ [.dK m, a, .dK (numD lo (firstD D.int (hF rule F lo n) lo k)), .lst (rgD lo n)])
    (fun _ _ _ hP => by obtain ⟨k, _, _, _, _, _, e⟩ := hP; rw [e, app_get]; rfl) ?_ ?_ _ _ _ ⟨0, e5, e9, Nat.zero_le _, rfl, by rw [nwk_zero]; rfl, rfl⟩
  · rintro env M' ⟨k, e5, e9, hk, hL, rfl, rfl⟩
    have hk := rgD_nil hL hk
    subst hk
    exact hE _ _
  · rintro d L env M' E' ⟨k, e5, e9, hk, hL, rfl, rfl⟩ hnx hct hrt hbk
    obtain ⟨hkn, rfl, hL2⟩ := rgD_drop hL
    obtain ⟨c0, c1, c2⟩ := (hF1 (lo + k)).den
    obtain ⟨l0, l1, l2⟩ := (cum_ok lo hF1 k).den
    obtain ⟨f0, f1, f2⟩ := (cum_ok lo hF1 (k + 1)).den
    have hkm : 2 ^ 112 * (k + 1) ≤ 2 ^ 112 * 300 := Nat.mul_le_mul_left _ (by omega)
    have hkm2 : 2 ^ 112 * k ≤ 2 ^ 112 * 300 := Nat.mul_le_mul_left _ (by omega)
    have ht : ∀ b c, tblAt (M ++ [Ob.dK m, a, b, c]) M.length = some m := fun b c => by
      unfold tblAt
      rw [app_get0]
      rfl
    have hg2 : ∀ b c, (M ++ [Ob.dK m, a, b, c])[M.length + 2]? = some b := fun b c => app_get M _ 2
    have hs2 : ∀ b c b', (M ++ [Ob.dK m, a, b, c]).set (M.length + 2) b' = M ++ [Ob.dK m, a, b', c] := fun b c b' => app_set M _ 2 b'
    have hgd : (valD m (Sum.inl (lo + (k : Int)))).getD (D.tup [D.int 0, D.int 1]) = qD (F (lo + k)) := r.getD _
    simp only [lh_body, wSeq, wAsg, wCall, wCons, wNil, wVar, wC, wBin, wRet, wIfS, wTst, wGn, wPar, wPar3, wTup, wNeg, wCB, wNext, wNotT, wAndT, wOrT, wTru, wIf, wDrop, oAdd, oSub, oMul, oDiv, oMod, oPow, oI, oI0, oIB, oLt, oLe, oGt, oGe, oAt, oIx, oEq, oNe, oEqK, cAbs, cInt, cLen, wBrk, wCnt, wIsi, wAndV, wOrV, wNotV, D.ty, Ty.sub, D.truth, oIsK, D.isN, wRetN, wGsub, wGet2, D.key, wGcons, wGnil, wGtup, wTupL, wNew, wLst, wDNew, wYes, wIterT, wIter, wRg1, wRg2, wEnum, wFor, wLc, wDc, wCat, wKeys, wPop, wReverse, wAppend, wEmp, wDictP, wSortI, wSortD, wLrg, wCallK, start3, List.map_cons, List.map_nil, List.cons_append, List.nil_append, List.getElem?_cons_zero, List.getElem?_cons_succ, List.set_cons_zero, List.set_cons_succ, List.length_cons, List.length_nil, List.replicate_succ, List.replicate_zero, Option.bind_some, Bool.true_xor, Bool.false_xor, Bool.xor_false, Bool.not_true, Bool.not_false, if_true, if_false, Bool.false_eq_true, wipeE, ht, hgd]
    refine ⟨by omega, _, _, _, _, rfl, l0, l1, c0, c1, by omega, by omega, ?_⟩
    rw [Rat.num_divInt_den, Rat.num_divInt_den]
    show S_rnd [.str rule, .int (cum F lo (k + 1)).num, .int ((cum F lo (k + 1)).den : Int)] _ _
    refine ⟨rule, _, _, rfl, f0, by omega, by omega, ?_⟩
    have hh := hF_at rule F lo hkn
    have e1 : rnd rule (cum F lo (k + 1)).num ((cum F lo (k + 1)).den : Int) = nwk rule F lo (k + 1) := rfl
    rw [e1]
    simp only [wSeq, wAsg, wCall, wCons, wNil, wVar, wC, wBin, wRet, wIfS, wTst, wGn, wPar, wPar3, wTup, wNeg, wCB, wNext, wNotT, wAndT, wOrT, wTru, wIf, wDrop, oAdd, oSub, oMul, oDiv, oMod, oPow, oI, oI0, oIB, oLt, oLe, oGt, oGe, oAt, oIx, oEq, oNe, oEqK, cAbs, cInt, cLen, wBrk, wCnt, wIsi, wAndV, wOrV, wNotV, D.ty, Ty.sub, D.truth, oIsK, D.isN, wRetN, wGsub, wGet2, D.key, wGcons, wGnil, wGtup, wTupL, wNew, wLst, wDNew, wYes, wIterT, wIter, wRg1, wRg2, wEnum, wFor, wLc, wDc, wCat, wKeys, wPop, wReverse, wAppend, wEmp, wDictP, wSortI, wSortD, wLrg, wCallK, start3, List.map_cons, List.map_nil, List.cons_append, List.nil_append, List.getElem?_cons_zero, List.getElem?_cons_succ, List.set_cons_zero, List.set_cons_succ, List.length_cons, List.length_nil, List.replicate_succ, List.replicate_zero, Option.bind_some, Bool.true_xor, Bool.false_xor, Bool.xor_false, Bool.not_true, Bool.not_false, if_true, if_false, Bool.false_eq_true, wipeE, hg2, hs2, ← hh, put_first D.int (hF rule F lo n) lo k]
    exact ⟨by rw [numD_len, firstD_len]; omega, hnx _ _ ⟨k + 1, _, _, hkn, hL2, rfl, rfl⟩⟩
theorem lh_ret_ok {R : D → Mem → Prop} (wf : wfM M.length M) (hF1 : ∀ p, OkV (2 ^ 112) (F p)) (h0 : -100 ≤ lo) (h1 : lo + n ≤ 121) (h2 : n ≤ 230) (h : ∀ lo2 n2, Trim 0 (hF rule F lo n) lo2 n2 → R (.tup [rowD D.int (hF rule F lo n) lo2 n2, qD (lft rule F lo n)]) M) (e5 e9 : Option D) (c : Ob) :
    lh_ret S_lowest (S_row1 D.int (0 : Int)) (ends3 M.length R) [x0, some (.str rule), x2, some (.loc M.length), x4, e5, some (.loc (M.length + 2)), some (qD (cum F lo n)), some (.int (nwk rule F lo n)), e9] (M ++ [.dK m, a, .dK (numD lo (firstD D.int (hF rule F lo n) lo n)), c]) := by
  have hz : 3000 ≤ sizeLine := by rw [sizeLine_eq]; decide
  simp only [lh_ret, wSeq, wAsg, wCall, wCons, wNil, wVar, wC, wBin, wRet, wIfS, wTst, wGn, wPar, wPar3, wTup, wNeg, wCB, wNext, wNotT, wAndT, wOrT, wTru, wIf, wDrop, oAdd, oSub, oMul, oDiv, oMod, oPow, oI, oI0, oIB, oLt, oLe, oGt, oGe, oAt, oIx, oEq, oNe, oEqK, cAbs, cInt, cLen, wBrk, wCnt, wIsi, wAndV, wOrV, wNotV, D.ty, Ty.sub, D.truth, oIsK, D.isN, wRetN, wGsub, wGet2, D.key, wGcons, wGnil, wGtup, wTupL, wNew, wLst, wDNew, wYes, wIterT, wIter, wRg1, wRg2, wEnum, wFor, wLc, wDc, wCat, wKeys, wPop, wReverse, wAppend, wEmp, wDictP, wSortI, wSortD, wLrg, wCallK, start3, List.map_cons, List.map_nil, List.cons_append, List.nil_append, List.getElem?_cons_zero, List.getElem?_cons_succ, List.set_cons_zero, List.set_cons_succ, List.length_cons, List.length_nil, List.replicate_succ, List.replicate_zero, Option.bind_some, Bool.true_xor, Bool.false_xor, Bool.xor_false, Bool.not_true, Bool.not_false, if_true, if_false, Bool.false_eq_true, wipeE]
  refine ⟨_, _, _, rfl, app_get M _ 2, rep_hF h0 h1 h2, fun lo2 n2 ht _ _ _ => ?_⟩
  obtain ⟨f0, f1, f2⟩ := (cum_ok lo hF1 n).den
  obtain ⟨l1, l2⟩ := lft_ok (k := n) rule lo hF1 (by omega)
  have eq : qD (cum F lo n) = .tup [.int (cum F lo n).num, .int (cum F lo n).den] := rfl
  simp only [eq, wSeq, wAsg, wCall, wCons, wNil, wVar, wC, wBin, wRet, wIfS, wTst, wGn, wPar, wPar3, wTup, wNeg, wCB, wNext, wNotT, wAndT, wOrT, wTru, wIf, wDrop, oAdd, oSub, oMul, oDiv, oMod, oPow, oI, oI0, oIB, oLt, oLe, oGt, oGe, oAt, oIx, oEq, oNe, oEqK, cAbs, cInt, cLen, wBrk, wCnt, wIsi, wAndV, wOrV, wNotV, D.ty, Ty.sub, D.truth, oIsK, D.isN, wRetN, wGsub, wGet2, D.key, wGcons, wGnil, wGtup, wTupL, wNew, wLst, wDNew, wYes, wIterT, wIter, wRg1, wRg2, wEnum, wFor, wLc, wDc, wCat, wKeys, wPop, wReverse, wAppend, wEmp, wDictP, wSortI, wSortD, wLrg, wCallK, start3, List.map_cons, List.map_nil, List.cons_append, List.nil_append, List.getElem?_cons_zero, List.getElem?_cons_succ, List.set_cons_zero, List.set_cons_succ, List.length_cons, List.length_nil, List.replicate_succ, List.replicate_zero, Option.bind_some, Bool.true_xor, Bool.false_xor, Bool.xor_false, Bool.not_true, Bool.not_false, if_true, if_false, Bool.false_eq_true, wipeE, at0, at1]
  refine ⟨mulW (by omega) (by omega), _, _, rfl, f0, by omega, ?_⟩
  rw [← sub_cast]
  exact ⟨by omega, ret_pre (List.prefix_append _ _) wf ⟨rowD_nl enc_int.1 _ _ _, enc_rat.1 _, trivial⟩ (h lo2 n2 ht)⟩
theorem lh_tail_ok {R : D → Mem → Prop} {ns : List Int} (wf : wfM M.length M) (r : Rep qD 0 F m) (hF1 : ∀ p, OkV (2 ^ 112) (F p)) (hT : ∀ lo' n, Trim 0 F lo' n → -100 ≤ lo' ∧ lo' + n ≤ 121 ∧ n ≤ 230) (hs : ns.Pairwise (· ≤ ·)) (hm : ∀ i, i ∈ ns ↔ F i ≠ 0)
    (h : ∀ lo' n lo2 n2, Trim 0 F lo' n → Trim 0 (hF rule F lo' n) lo2 n2 → R (.tup [rowD D.int (hF rule F lo' n) lo2 n2, qD (lft rule F lo' n)]) M) (e5 e6 e7 e8 e9 : Option D) :
    lh_tail (S_pm (· + ·)) S_rnd S_lowest (S_row1 D.int (0 : Int)) (ends3 M.length R) [x0, some (.str rule), x2, some (.loc M.length), some (.loc (M.length + 1)), e5, e6, e7, e8, e9] (M ++ [.dK m, .lst (ns.map .int)]) := by
  have hz : 3000 ≤ sizeLine := by rw [sizeLine_eq]; decide
  obtain ⟨t1, t2⟩ := trim_sorted hs hm
  have hp := pys_ints ns
  have hsh := shaped_ints ns
  have hl2 : ∀ a b, (M ++ [a, b]).length = M.length + 2 := fun a b => by simp
  have hl3 : ∀ a b c, (M ++ [a, b, c]).length = M.length + 3 := fun a b c => by simp
  have hg1 : ∀ a b c, (M ++ [a, b, c])[M.length + 1]? = some b := fun a b c => app_get M _ 1
  have hg3 : ∀ a b c d, (M ++ [a, b, c, d])[M.length + 3]? = some d := fun a b c d => app_get M _ 3
  unfold lh_tail
  cases ns with
  | nil =>
    obtain ⟨h0, h1, h2⟩ := hT 0 0 (t1 rfl)
    have hp : D.pys [] = some [] := rfl
    generalize hB : lh_body (S_pm (· + ·)) S_rnd = BB
    generalize hX : lh_ret S_lowest (S_row1 D.int (0 : Int)) = XX
    simp only [wSeq, wAsg, wCall, wCons, wNil, wVar, wC, wBin, wRet, wIfS, wTst, wGn, wPar, wPar3, wTup, wNeg, wCB, wNext, wNotT, wAndT, wOrT, wTru, wIf, wDrop, oAdd, oSub, oMul, oDiv, oMod, oPow, oI, oI0, oIB, oLt, oLe, oGt, oGe, oAt, oIx, oEq, oNe, oEqK, cAbs, cInt, cLen, wBrk, wCnt, wIsi, wAndV, wOrV, wNotV, D.ty, Ty.sub, D.truth, oIsK, D.isN, wRetN, wGsub, wGet2, D.key, wGcons, wGnil, wGtup, wTupL, wNew, wLst, wDNew, wYes, wIterT, wIter, wRg1, wRg2, wEnum, wFor, wLc, wDc, wCat, wKeys, wPop, wReverse, wAppend, wEmp, wDictP, wSortI, wSortD, wLrg, wCallK, start3, List.map_cons, List.map_nil, List.cons_append, List.nil_append, List.getElem?_cons_zero, List.getElem?_cons_succ, List.set_cons_zero, List.set_cons_succ, List.length_cons, List.length_nil, List.replicate_succ, List.replicate_zero, Option.bind_some, Bool.true_xor, Bool.false_xor, Bool.xor_false, Bool.not_true, Bool.not_false, if_true, if_false, Bool.false_eq_true, wipeE, hl2, hl3, hg1, hg3, Ob.seq, hp, List.isEmpty_nil, List.append_assoc]
    refine ⟨by omega, hsh, by omega, ?_⟩
    subst hB hX
    exact lh_loop (lo := 0) (n := 0) r hF1 (by omega) (fun e5 e9 => lh_ret_ok wf hF1 h0 h1 h2 (fun lo2 n2 h3 => h 0 0 lo2 n2 (t1 rfl) h3) e5 e9 _) _ _
  | cons b l =>
    obtain ⟨t2, t3⟩ := t2 b l rfl
    have hp : D.pys (D.int b :: l.map D.int) = some ((b :: l).map PyData.int) := hp
    obtain ⟨y', hy'⟩ : ∃ y', (b :: l).getLast? = some y' := ⟨_, List.getLast?_eq_getLast (List.cons_ne_nil _ _)⟩
    rw [hy'] at t2 t3
    have t2 : Trim 0 F b (y' + 1 - b).toNat := t2
    have t3 : b ≤ y' := t3
    obtain ⟨h0, h1, h2⟩ := hT _ _ t2
    have he1 : atI (D.int b :: l.map D.int) (-1) = some (.int y') := atI_end hy'
    have ht : ∀ a c d, tblAt (M ++ [a, Ob.lst c, d]) (M.length + 1) = none := fun a c d => by
      unfold tblAt
      rw [app_get]
      rfl
    generalize hB : lh_body (S_pm (· + ·)) S_rnd = BB
    generalize hX : lh_ret S_lowest (S_row1 D.int (0 : Int)) = XX
    simp only [wSeq, wAsg, wCall, wCons, wNil, wVar, wC, wBin, wRet, wIfS, wTst, wGn, wPar, wPar3, wTup, wNeg, wCB, wNext, wNotT, wAndT, wOrT, wTru, wIf, wDrop, oAdd, oSub, oMul, oDiv, oMod, oPow, oI, oI0, oIB, oLt, oLe, oGt, oGe, oAt, oIx, oEq, oNe, oEqK, cAbs, cInt, cLen, wBrk, wCnt, wIsi, wAndV, wOrV, wNotV, D.ty, Ty.sub, D.truth, oIsK, D.isN, wRetN, wGsub, wGet2, D.key, wGcons, wGnil, wGtup, wTupL, wNew, wLst, wDNew, wYes, wIterT, wIter, wRg1, wRg2, wEnum, wFor, wLc, wDc, wCat, wKeys, wPop, wReverse, wAppend, wEmp, wDictP, wSortI, wSortD, wLrg, wCallK, start3, List.map_cons, List.map_nil, List.cons_append, List.nil_append, List.getElem?_cons_zero, List.getElem?_cons_succ, List.set_cons_zero, List.set_cons_succ, List.length_cons, List.length_nil, List.replicate_succ, List.replicate_zero, Option.bind_some, Bool.true_xor, Bool.false_xor, Bool.xor_false, Bool.not_true, Bool.not_false, if_true, if_false, Bool.false_eq_true, wipeE, hl2, hl3, hg1, hg3, ht, Ob.seq, hp, List.isEmpty_cons, List.append_assoc, atI_first, he1]
    refine ⟨by omega, hsh, ?_, ?_⟩
    · exact ⟨by omega, by omega, by omega, by omega, by omega⟩
    subst hB hX
    exact lh_loop (lo := b) (n := (y' + 1 - b).toNat) r hF1 (by omega) (fun e5 e9 => lh_ret_ok wf hF1 h0 h1 h2 (fun lo2 n2 h3 => h _ _ lo2 n2 t2 h3) e5 e9 _) _ _
end
def kqP (F : Int → Rat) : D → Option D
  | .int i => if F i = 0 then none else some (.int i)
  | _ => none
theorem kq_map {F : Int → Rat} {m : List (Key × D)} (r : Rep qD 0 F m) : (keysD m).filterMap (kqP F) = (m.filterMap (nzP 0 F)).map D.int := by
  have key := r.key
  clear r
  induction m with
  | nil => rfl
  | cons p q ih =>
    obtain ⟨i, e1, e2⟩ := key p List.mem_cons_self
    obtain ⟨k, d⟩ := p
    cases e1
    have ih := ih fun p hp => key p (List.mem_cons_of_mem _ hp)
    unfold keysD at ih ⊢
    have a1 : kqP F (kD (Sum.inl i)) = if F i = 0 then none else some (D.int i) := rfl
    have a2 : nzP 0 F (Sum.inl i, d) = if F i = 0 then none else some i := rfl
    rw [List.map_cons, List.filterMap_cons, List.filterMap_cons, a1, a2]
    by_cases h : F i = 0
    · rw [if_pos h, if_pos h]
      exact ih
    · rw [if_neg h, if_neg h]
      exact congrArg (D.int i :: ·) ih
theorem P__law_handed : ∀ ds M R, wfM M.length M → S__law_handed ds M R → W__law_handed S__law_done (S_pm (· + ·)) S_rnd S_lowest (S_row1 D.int (0 : Int)) (ends3 M.length R) (start3 N__law_handed ds) M := by
  rintro _ M R wf ⟨s, rule, lo, xs, rfl, hs, hx, h⟩
  have hz : 3000 ≤ sizeLine := by rw [sizeLine_eq]; decide
  show (wSeq (wAsg (wCall S__law_done (wCons (wVar 0) (wCons (wVar 2) wNil))) (wGn 3))
  (wSeq (wLock (wAsg (wNew (wSortI (wLc [5] (wKeys keysD (wVar 3)) (wGn 5) (wTst (wBin oNe (wBin oAt (wBin oAt (wVar 3) (wVar 5)) (wC (.int 0))) (wC (.int 0)))) (wVar 5)))) (wGn 4)))
  (lh_tail (S_pm (· + ·)) S_rnd S_lowest (S_row1 D.int (0 : Int))))) _ _ _
  generalize hX : lh_tail (S_pm (· + ·)) S_rnd S_lowest (S_row1 D.int (0 : Int)) = XX
  simp only [N__law_handed, wSeq, wAsg, wCall, wCons, wNil, wVar, wC, wBin, wRet, wIfS, wTst, wGn, wPar, wPar3, wTup, wNeg, wCB, wNext, wNotT, wAndT, wOrT, wTru, wIf, wDrop, oAdd, oSub, oMul, oDiv, oMod, oPow, oI, oI0, oIB, oLt, oLe, oGt, oGe, oAt, oIx, oEq, oNe, oEqK, cAbs, cInt, cLen, wBrk, wCnt, wIsi, wAndV, wOrV, wNotV, D.ty, Ty.sub, D.truth, oIsK, D.isN, wRetN, wGsub, wGet2, D.key, wGcons, wGnil, wGtup, wTupL, wNew, wLst, wDNew, wYes, wIterT, wIter, wRg1, wRg2, wEnum, wFor, wLc, wDc, wCat, wKeys, wPop, wReverse, wAppend, wEmp, wDictP, wSortI, wSortD, wLrg, wCallK, start3, List.map_cons, List.map_nil, List.cons_append, List.nil_append, List.getElem?_cons_zero, List.getElem?_cons_succ, List.set_cons_zero, List.set_cons_succ, List.length_cons, List.length_nil, List.replicate_succ, List.replicate_zero, Option.bind_some, Bool.true_xor, Bool.false_xor, Bool.xor_false, Bool.not_true, Bool.not_false, if_true, if_false, Bool.false_eq_true, wipeE]
  refine ⟨s, lo, xs, rfl, hs, hx, fun m r => ?_⟩
  refine ⟨M.length, m, app_get0 M _, ?_⟩
  have hs0 : ∀ a b, (M ++ [a]).set M.length b = M ++ [b] := fun a b => app_set M [a] 0 b
  have hlk : lkAt (M ++ [Ob.lkK m]) M.length = some m := by
    unfold lkAt
    rw [app_get0]
    rfl
  have ht : tblAt (M ++ [Ob.lkK m]) M.length = some m := by
    unfold tblAt
    rw [app_get0]
    rfl
  simp only [wSeq, wAsg, wCall, wCons, wNil, wVar, wC, wBin, wRet, wIfS, wTst, wGn, wPar, wPar3, wTup, wNeg, wCB, wNext, wNotT, wAndT, wOrT, wTru, wIf, wDrop, oAdd, oSub, oMul, oDiv, oMod, oPow, oI, oI0, oIB, oLt, oLe, oGt, oGe, oAt, oIx, oEq, oNe, oEqK, cAbs, cInt, cLen, wBrk, wCnt, wIsi, wAndV, wOrV, wNotV, D.ty, Ty.sub, D.truth, oIsK, D.isN, wRetN, wGsub, wGet2, D.key, wGcons, wGnil, wGtup, wTupL, wNew, wLst, wDNew, wYes, wIterT, wIter, wRg1, wRg2, wEnum, wFor, wLc, wDc, wCat, wKeys, wPop, wReverse, wAppend, wEmp, wDictP, wSortI, wSortD, wLrg, wCallK, start3, List.map_cons, List.map_nil, List.cons_append, List.nil_append, List.getElem?_cons_zero, List.getElem?_cons_succ, List.set_cons_zero, List.set_cons_succ, List.length_cons, List.length_nil, List.replicate_succ, List.replicate_zero, Option.bind_some, Bool.true_xor, Bool.false_xor, Bool.xor_false, Bool.not_true, Bool.not_false, if_true, if_false, Bool.false_eq_true, wipeE, hs0, hlk]
  refine lc_pure (kqP (FF lo xs s)) (app_get0 M _) _ _ (fun d hd K1 K2 h1 h2 => ?_) (by unfold keysD; simp only [List.length_map, List.length_nil]; have := r.len; omega) ?_
  · unfold keysD at hd
    obtain ⟨⟨k, v⟩, hp, rfl⟩ := List.mem_map.mp hd
    obtain ⟨j, e1, e2⟩ := r.key _ hp
    simp only at e1 e2
    subst e1 e2
    rcases r.val j with hv | ⟨hv, _⟩
    · simp only [wSeq, wAsg, wCall, wCons, wNil, wVar, wC, wBin, wRet, wIfS, wTst, wGn, wPar, wPar3, wTup, wNeg, wCB, wNext, wNotT, wAndT, wOrT, wTru, wIf, wDrop, oAdd, oSub, oMul, oDiv, oMod, oPow, oI, oI0, oIB, oLt, oLe, oGt, oGe, oAt, oIx, oEq, oNe, oEqK, cAbs, cInt, cLen, wBrk, wCnt, wIsi, wAndV, wOrV, wNotV, D.ty, Ty.sub, D.truth, oIsK, D.isN, wRetN, wGsub, wGet2, D.key, wGcons, wGnil, wGtup, wTupL, wNew, wLst, wDNew, wYes, wIterT, wIter, wRg1, wRg2, wEnum, wFor, wLc, wDc, wCat, wKeys, wPop, wReverse, wAppend, wEmp, wDictP, wSortI, wSortD, wLrg, wCallK, start3, List.map_cons, List.map_nil, List.cons_append, List.nil_append, List.getElem?_cons_zero, List.getElem?_cons_succ, List.set_cons_zero, List.set_cons_succ, List.length_cons, List.length_nil, List.replicate_succ, List.replicate_zero, Option.bind_some, Bool.true_xor, Bool.false_xor, Bool.xor_false, Bool.not_true, Bool.not_false, if_true, if_false, Bool.false_eq_true, wipeE, kD, ht, hv, qD, at0]
      have hn : ((FF lo xs s j).num = 0) ↔ FF lo xs s j = 0 := Rat.num_eq_zero
      by_cases hj : FF lo xs s j = 0
      · rw [decide_eq_true (hn.mpr hj), Bool.not_true, if_neg (by decide)]
        refine h2 ?_
        show (if FF lo xs s j = 0 then none else some (D.int j)) = none
        rw [if_pos hj]
      · rw [decide_eq_false (fun z => hj (hn.mp z)), Bool.not_false, if_pos rfl]
        refine h1 _ ?_
        show (if FF lo xs s j = 0 then none else some (D.int j)) = some (D.int j)
        rw [if_neg hj]
    · exact ((valD_none hv) (List.mem_map_of_mem (f := (·.1)) hp)).elim
  · rw [List.nil_append, kq_map r]
    refine ⟨_, rfl, fun ns hp hs' => ?_⟩
    have hl1 : ∀ a, (M ++ [a]).length = M.length + 1 := fun a => by simp
    simp only [hl1, List.append_assoc, List.cons_append, List.nil_append]
    refine ⟨app_get0 M _, ?_⟩
    have hs1 : ∀ a b c, (M ++ [a, b]).set M.length c = M ++ [c, b] := fun a b c => app_set M [a, b] 0 c
    rw [hs1]
    subst hX
    exact lh_tail_ok wf r (F_ok hs hx) (fun _ _ z => F_trim hs hx z) hs' (fun i => by rw [hp.mem_iff]; exact nz_mem r i) h _ _ _ _ _
end K75
set_option Elab.async false
set_option linter.all false
set_option maxRecDepth 100000
set_option maxHeartbeats 400000
namespace K75
open PySem PySem.Spec PyProof.Rows L2 Gx R3

/-! ### a case -/
theorem bag_app (B : Bag) (rest l : Mem) (j : Nat) : (bagM B ++ (rest ++ l))[rest.length + 3 + j]? = l[j]? := by
  rw [← List.append_assoc, show rest.length + 3 + j = (bagM B ++ rest).length + j by simp [bagM]]
  exact app_get _ _ _
theorem bag_len (B : Bag) (rest l : Mem) : (bagM B ++ (rest ++ l)).length = rest.length + 3 + l.length := by
  simp [bagM]
  omega
theorem bag_len0 (B : Bag) (rest : Mem) : (bagM B ++ rest).length = rest.length + 3 := by
  simp [bagM]
theorem shaped_tup (l : List Int) : SeqAt.shaped (.tuple (l.map PyData.int)) = true := by
  unfold SeqAt.shaped
  have h1 : PyData.depth (.tuple (l.map PyData.int)) ≤ 64 := by
    unfold PyData.depth
    rw [depthAll_ints]
    decide
  rw [decide_eq_true h1]
  have : PyData.canLay0 (.tuple (l.map PyData.int)) = true := by
    unfold PyData.canLay0
    exact canLay_ints l
  rw [this]
  rfl
def S_case : SP3 := fun ds M R => ∃ (B : Bag) (T : Nat) (rest : Mem), ds = [.loc 2] ∧ M = bagM B ++ rest ∧ B.ok T ∧ T < 2 ^ 62 ∧
  ∀ (B' : Bag) s lo xs, B'.ok (T + 50) → SumOk s → RowOk lo xs → R (.tup [sD s, rowI lo xs]) (bagM B' ++ rest)
def q13 : Rat := ⟨1, 3, by decide, by decide⟩
def q13n : Rat := ⟨-1, 3, by decide, by decide⟩
theorem sum13 : SumOk [(0, q13), (1, q13n)] := ⟨by decide, fun t ht => by
    simp only [List.mem_cons, List.not_mem_nil, or_false] at ht
    rcases ht with rfl | rfl
    · exact ⟨by decide, by decide⟩
    · exact ⟨by decide, by decide⟩, fun t ht => by
    simp only [List.mem_cons, List.not_mem_nil, or_false] at ht
    rcases ht with rfl | rfl
    · exact ⟨⟨420, rfl⟩, by decide⟩
    · exact ⟨⟨420, rfl⟩, by decide⟩⟩
theorem ne_nil_go {xs : List Int} {M : Mem} {R : D → Mem → Prop} (h : R (.bl (!xs.isEmpty)) M) : oNe (.tup (xs.map .int)) (.tup []) M R := by
  refine ⟨.tuple (xs.map PyData.int), .tuple [], ?_, rfl, shaped_tup xs, rfl, ?_⟩
  · unfold D.py
    rw [pys_ints]
    rfl
  · cases xs with
    | nil => exact h
    | cons x r => exact h
def case_tail : WS := (wSeq (wIfS (wTst (wBin oEq (wVar 1) (wC (.int 0))))
  (wAsg (wTup wNil) (wGn 4))
  wNext)
  (wSeq (wIfS (wTst (wBin oEq (wVar 1) (wC (.int 1))))
  (wSeq (wAsg (wTup (wCons (wTup (wCons (wC (.int 0)) (wCons (wTup (wCons (wC (.int 1)) (wCons (wC (.int 3)) wNil))) wNil))) (wCons (wTup (wCons (wC (.int 1)) (wCons (wTup (wCons (wNeg (wC (.int 1))) (wCons (wC (.int 3)) wNil))) wNil))) wNil))) (wGn 4))
  (wAsg (wIf (wTst (wBin oNe (wBin oAt (wVar 3) (wC (.int 1))) (wTup wNil))) (wTup (wCons (wBin oAt (wVar 3) (wC (.int 0))) (wCons (wBin oMul (wTup (wCons (wVar 2) wNil)) (wCB cLen (wCons (wBin oAt (wVar 3) (wC (.int 1))) wNil))) wNil))) (wVar 3)) (wGn 3)))
  wNext)
  (wRet (wTup (wCons (wVar 4) (wCons (wVar 3) wNil))))))
theorem case_tail_ok {N : Nat} {R : D → Mem → Prop} {M : Mem} {sort size lo : Int} {xs : List Int} {s : List (Int × Rat)} (hs : SumOk s) (hx : RowOk lo xs) (h0 : 0 < size) (h1 : size ≤ 2 ^ 87) (x0 : Option D)
    (h : ∀ s xs, SumOk s → RowOk lo xs → (ends3 N R).rt (.tup [sD s, rowI lo xs]) M) : case_tail (ends3 N R) [x0, some (.int sort), some (.int size), some (rowI lo xs), some (sD s)] M := by
  have hz : 3000 ≤ sizeLine := by rw [sizeLine_eq]; decide
  unfold case_tail
  simp only [wSeq, wAsg, wCall, wCons, wNil, wVar, wC, wBin, wRet, wIfS, wTst, wGn, wPar, wPar3, wTup, wNeg, wCB, wNext, wNotT, wAndT, wOrT, wTru, wIf, wDrop, oAdd, oSub, oMul, oDiv, oMod, oPow, oI, oI0, oIB, oLt, oLe, oGt, oGe, oAt, oIx, cAbs, cInt, cLen, wBrk, wCnt, wIsi, wAndV, wOrV, wNotV, D.ty, Ty.sub, D.truth, oIsK, D.isN, wRetN, wGsub, wGet2, D.key, wGcons, wGnil, wGtup, wTupL, wNew, wLst, wDNew, wYes, wIterT, wIter, wRg1, wRg2, wEnum, wFor, wLc, wDc, wCat, wKeys, wPop, wReverse, wAppend, wEmp, wDictP, wSortI, wSortD, wLrg, wCallK, start3, List.map_cons, List.map_nil, List.cons_append, List.nil_append, List.getElem?_cons_zero, List.getElem?_cons_succ, List.set_cons_zero, List.set_cons_succ, List.length_cons, List.length_nil, List.replicate_succ, List.replicate_zero, Option.bind_some, Bool.true_xor, Bool.false_xor, Bool.xor_false, Bool.not_true, Bool.not_false, if_true, if_false, Bool.false_eq_true, wipeE, rowI, at0, at1]
  simp only [oEq, oEqK, Bool.false_xor, decide_eq_true_eq]
  by_cases e0 : sort = 0
  · rw [if_pos e0, if_neg (by omega)]
    exact ⟨by omega, by omega, h [] xs ⟨by decide, (fun _ ht => by cases ht), (fun _ ht => by cases ht)⟩ hx⟩
  · rw [if_neg e0]
    by_cases e1 : sort = 1
    · rw [if_pos e1]
      refine ⟨by omega, by omega, by omega, by omega, by omega, by omega, ?_⟩
      refine ne_nil_go ?_
      cases xs with
      | nil => exact ⟨by omega, h _ [] sum13 hx⟩
      | cons x r =>
        have hrow : RowOk lo (List.replicate (r.length + 1) size) := ⟨hx.l0, hx.l1, by rw [List.length_replicate]; exact hx.len, fun y hy => by rw [(List.mem_replicate.mp hy).2]; omega⟩
        have hlen := hx.len
        rw [List.length_cons] at hlen
        have hl : ((List.map D.int (x :: r)).length : Int) = (r.length : Int) + 1 := by simp
        have fin : (ends3 N R).rt (.tup [sD [(0, q13), (1, q13n)], .tup [.int lo, .tup ((List.replicate (r.length + 1) size).map .int)]]) M := h _ _ sum13 hrow
        show _ ∧ _
        refine ⟨by omega, ?_⟩
        rw [hl]
        by_cases hr : r = []
        · subst hr
          exact .inl ⟨rfl, by omega, by omega, fin⟩
        · have := List.length_pos_iff.mpr hr
          refine .inr ⟨⟨by simp, by omega, by omega, by simp⟩, by omega, by omega, ?_⟩
          have e : (List.replicate ((r.length : Int) + 1).toNat [D.int size]).flatten = (List.replicate (r.length + 1) size).map D.int := by
            rw [show ((r.length : Int) + 1).toNat = r.length + 1 by omega, List.flatten_replicate_singleton, List.map_replicate]
          rw [e]
          exact fin
    · rw [if_neg e1]
      exact ⟨by omega, h s xs hs hx⟩
theorem p26 : (10 : Int) ^ Int.toNat 26 = 100000000000000000000000000 := by
  have h := Int.natCast_pow 10 26
  rw [show Int.toNat 26 = 26 from rfl]
  exact h.symm.trans rfl
def bigL : WE := (wNew (wLst (wCons (wNew (wLst (wCons (wC (.int 1)) wNil))) (wCons (wNew (wLst (wCons (wC (.int 2)) wNil))) (wCons (wNew (wLst (wCons (wC (.int 2)) (wCons (wC (.int 3)) wNil)))) (wCons (wNew (wLst (wCons (wC (.int 4)) (wCons (wC (.int 6)) (wCons (wC (.int 9)) wNil))))) (wCons (wNew (wLst (wCons (wC (.int 10)) (wCons (wC (.int 7)) wNil)))) wNil)))))))
def smallL : WE := (wNew (wLst (wCons (wC (.int 1)) (wCons (wC (.int 3)) (wCons (wC (.int 20)) (wCons (wC (.int 1000)) (wCons (wBin oPow (wC (.int 10)) (wC (.int 26))) wNil)))))))
theorem new_one {w : WA} {ds : List D} {env : Env3} {M : Mem} {R : D → Mem → Prop} (hw : ∀ Q : List D → Mem → Prop, Q ds M → w env M Q) (hl : ds.length ≤ 1000) (h : R (.loc M.length) (M ++ [.lst ds])) : wNew (wLst w) env M R := by
  have hz : 3000 ≤ sizeLine := by rw [sizeLine_eq]; decide
  exact hw _ ⟨by omega, h⟩
theorem cons_go {w : WE} {r : WA} {env : Env3} {M M1 : Mem} {d : D} {Q : List D → Mem → Prop} (hw : ∀ R : D → Mem → Prop, R d M1 → w env M R) (h : r env M1 fun ds M2 => Q (d :: ds) M2) : wCons w r env M Q := hw _ h
theorem ints_go (env : Env3) (M : Mem) : ∀ (l : List Int) (Q : List D → Mem → Prop), Q (l.map .int) M → (l.foldr (fun i r => wCons (wC (.int i)) r) wNil) env M Q
  | [], Q, h => h
  | x :: l, Q, h => ints_go env M l _ h
theorem smallL_ok {env : Env3} {M : Mem} {R : D → Mem → Prop} (h : R (.loc M.length) (M ++ [.lst [.int 1, .int 3, .int 20, .int 1000, .int 100000000000000000000000000]])) : smallL env M R := by
  refine new_one (ds := [.int 1, .int 3, .int 20, .int 1000, .int 100000000000000000000000000]) (fun Q hQ => ?_) (by decide) h
  rw [← p26] at hQ
  exact ⟨⟨by decide, by decide, by decide⟩, hQ⟩
theorem bigL_ok {env : Env3} {M : Mem} {R : D → Mem → Prop} (h : R (.loc (M.length + 5)) (M ++ [.lst [.int 1], .lst [.int 2], .lst [.int 2, .int 3], .lst [.int 4, .int 6, .int 9], .lst [.int 10, .int 7], .lst [.loc M.length, .loc (M.length + 1), .loc (M.length + 2), .loc (M.length + 3), .loc (M.length + 4)]])) : bigL env M R := by
  have hz : 3000 ≤ sizeLine := by rw [sizeLine_eq]; decide
  have a : ∀ (l : List Int) (N : Mem), l.length ≤ 1000 → ∀ Q : D → Mem → Prop, Q (.loc N.length) (N ++ [.lst (l.map .int)]) → wNew (wLst (l.foldr (fun i r => wCons (wC (.int i)) r) wNil)) env N Q := fun l N hl Q hQ => new_one (ds := l.map .int) (fun Q h => ints_go env N l Q h) (by rw [List.length_map]; exact hl) hQ
  unfold bigL
  show wLst _ env M _
  refine cons_go (fun Q h => a [1] M (by decide) Q h) ?_
  refine cons_go (fun Q h => a [2] _ (by decide) Q h) ?_
  refine cons_go (fun Q h => a [2, 3] _ (by decide) Q h) ?_
  refine cons_go (fun Q h => a [4, 6, 9] _ (by decide) Q h) ?_
  refine cons_go (fun Q h => a [10, 7] _ (by decide) Q h) ?_
  show _ ∧ R _ _
  refine ⟨by simp only [List.length_cons, List.length_nil]; omega, ?_⟩
  simp only [List.append_assoc, List.length_append, List.length_cons, List.length_nil, List.cons_append, List.nil_append, Nat.zero_add, Nat.add_assoc] at h ⊢
  exact h
def c4 : WS := (wSeq (wAsg (wCall S_sum (wCons (wVar 0) (wCons (wC (.int 4)) (wCons (wC (.int 3)) (wCons (wCall S_pick (wCons (wVar 0) (wCons bigL wNil))) (wCons (wC (.int 9)) wNil)))))) (wGn 4))
  case_tail)
def c3 : WS := (wSeq (wAsg (wCall S_draw_row (wCons (wVar 0) (wCons (wC (.int 12)) (wCons (wVar 2) wNil)))) (wGn 3)) c4)
def c2 : WS := (wSeq (wAsg (wCall S_pick (wCons (wVar 0) (wCons smallL wNil))) (wGn 2)) c3)
theorem c4_ok {B3 : Bag} {T : Nat} {rest : Mem} {l1 : Ob} {E : Ends3} {sort size lo : Int} {xs : List Int} {x4 : Option D} (ok : B3.ok T) (hT : T < 2 ^ 62 + 100)
    (h : ∀ (B : Bag) s G, B.ok (T + 21) → SumOk s → case_tail E [some (.loc 2), some (.int sort), some (.int size), some (rowI lo xs), some (sD s)] (bagM B ++ (rest ++ l1 :: G))) :
    c4 E [some (.loc 2), some (.int sort), some (.int size), some (rowI lo xs), x4] (bagM B3 ++ (rest ++ [l1])) := by
  show bigL _ _ fun d M1 => S_pick [.loc 2, d] M1 fun d M1 => S_sum [.loc 2, .int 4, .int 3, d, .int 9] M1 fun d M1 => case_tail E [some (.loc 2), some (.int sort), some (.int size), some (rowI lo xs), some d] M1
  refine bigL_ok ?_
  simp only [List.append_assoc, bag_len, List.cons_append, List.nil_append, List.length_cons, List.length_nil, Nat.zero_add, Nat.add_assoc, Nat.reduceAdd]
  have key : ∀ (B4 : Bag) (n : Nat) (bl : List Int) (G : Mem), B4.ok (T + 1) → (bagM B4 ++ (rest ++ l1 :: G))[n]? = some (.lst (bl.map .int)) → 3 ≤ n → bl ≠ [] → bl.length < 2 ^ 24 → (∀ x ∈ bl, 0 < x ∧ x ∣ 1260) → S_sum [.loc 2, .int 4, .int 3, .loc n, .int 9] (bagM B4 ++ (rest ++ l1 :: G)) fun d M1 => case_tail E [some (.loc 2), some (.int sort), some (.int size), some (rowI lo xs), some d] M1 := fun B4 n bl G ok4 h1 h2 h3 h4 h5 =>
    ⟨B4, T + 1, n, bl, rest ++ l1 :: G, rfl, rfl, ok4, by omega, h1, h2, h3, h4, h5, fun B5 s ok5 hs => h B5 s G (ok5.mono (by omega)) hs⟩
  refine ⟨B3, T, rest.length + 9, _, _, rfl, rfl, ok, by omega, bag_app _ _ _ 6, by omega, by simp, by simp only [List.length_cons, List.length_nil]; omega, fun d hd => ?_, fun B4 ok4 d hd => ?_⟩
  · rw [bag_len]
    simp only [List.mem_cons, List.not_mem_nil, or_false] at hd
    simp only [List.length_cons, List.length_nil]
    rcases hd with rfl | rfl | rfl | rfl | rfl
    · show _ < _; omega
    · show _ < _; omega
    · show _ < _; omega
    · show _ < _; omega
    · show _ < _; omega
  · simp only [List.mem_cons, List.not_mem_nil, or_false] at hd
    rcases hd with rfl | rfl | rfl | rfl | rfl
    · exact key B4 _ [1] _ ok4 (bag_app _ _ _ 1) (by omega) (by decide) (by decide) (by decide)
    · exact key B4 _ [2] _ ok4 (bag_app _ _ _ 2) (by omega) (by decide) (by decide) (by decide)
    · exact key B4 _ [2, 3] _ ok4 (bag_app _ _ _ 3) (by omega) (by decide) (by decide) (by decide)
    · exact key B4 _ [4, 6, 9] _ ok4 (bag_app _ _ _ 4) (by omega) (by decide) (by decide) (by decide)
    · exact key B4 _ [10, 7] _ ok4 (bag_app _ _ _ 5) (by omega) (by decide) (by decide) (by decide)
theorem c2_ok {B1 : Bag} {T : Nat} {rest : Mem} {E : Ends3} {sort : Int} {x2 x3 x4 : Option D} (ok : B1.ok T) (hT : T < 2 ^ 62 + 10)
    (h : ∀ (B : Bag) s size lo xs l1 G, B.ok (T + 42) → SumOk s → RowOk lo xs → 0 < size → size ≤ 2 ^ 87 → case_tail E [some (.loc 2), some (.int sort), some (.int size), some (rowI lo xs), some (sD s)] (bagM B ++ (rest ++ l1 :: G))) :
    c2 E [some (.loc 2), some (.int sort), x2, x3, x4] (bagM B1 ++ rest) := by
  show smallL _ _ fun d M1 => S_pick [.loc 2, d] M1 fun d M1 => c3 E [some (.loc 2), some (.int sort), some d, x3, x4] M1
  refine smallL_ok ?_
  rw [List.append_assoc, bag_len0]
  generalize hl1 : Ob.lst [D.int 1, D.int 3, D.int 20, D.int 1000, D.int 100000000000000000000000000] = l1
  refine ⟨B1, T, rest.length + 3, [D.int 1, D.int 3, D.int 20, D.int 1000, D.int 100000000000000000000000000], rest ++ [l1], rfl, rfl, ok, by omega, by rw [hl1]; exact bag_app _ _ _ 0, by omega, by simp, by decide, fun d hd => ?_, fun B2 ok2 d hd => ?_⟩
  · simp only [List.mem_cons, List.not_mem_nil, or_false] at hd
    rcases hd with rfl | rfl | rfl | rfl | rfl <;> exact trivial
  obtain ⟨size, rfl, s0, s1⟩ : ∃ size : Int, d = .int size ∧ 0 < size ∧ size ≤ 2 ^ 87 := by
    simp only [List.mem_cons, List.not_mem_nil, or_false] at hd
    rcases hd with rfl | rfl | rfl | rfl | rfl <;> exact ⟨_, rfl, by omega, by omega⟩
  clear hd hl1
  show S_draw_row [.loc 2, .int 12, .int size] _ fun d M1 => c4 E [some (.loc 2), some (.int sort), some (.int size), some d, x4] M1
  refine ⟨B2, T + 1, size, rest ++ [l1], rfl, rfl, ok2, by omega, s0, s1, fun B3 lo xs ok3 hx => ?_⟩
  exact c4_ok ok3 (by omega) fun B s G okB hs => h B s size lo xs l1 G okB hs hx s0 s1
theorem P__law_case : ∀ ds M R, wfM M.length M → S_case ds M R → W__law_case S_draw S_pick S_draw_row S_sum (ends3 M.length R) (start3 N__law_case ds) M := by
  rintro _ _ R wf ⟨B, T, rest, rfl, rfl, ok, hT, h⟩
  show S_draw [.loc 2, .int 8] _ fun d M1 => c2 _ [some (.loc 2), some d, none, none, none] M1
  refine ⟨B, T, 8, rest, rfl, rfl, ok, by omega, by decide, by decide, fun B1 sort ok1 _ _ => ?_⟩
  refine c2_ok ok1 (by omega) fun B2 s size lo xs l1 G ok2 hs hx s0 s1 => ?_
  refine case_tail_ok hs hx s0 s1 _ fun s' xs' hs' hx' => ?_
  rw [← List.append_assoc]
  refine ret_bag wf ⟨nls_map tapD (fun _ => ⟨trivial, enc_rat.1 _, trivial⟩) _, ⟨trivial, nls_ints _, trivial⟩, trivial⟩ (h B2 s' lo xs' (ok2.mono (by omega)) hs' hx')
end K75
set_option Elab.async false
set_option linter.all false
set_option maxRecDepth 100000
set_option maxHeartbeats 400000
namespace K75
open PySem PySem.Spec PyProof.Rows L2 Gx R3

/-! ### the law -/
def G_law : D → Mem → Prop := fun d M => d = .loc 2 ∧ ∃ B : Bag, M = bagM B ∧ B.ok 0
theorem plD_ints (n : Nat) {l : List Int} (h : l.length < 2 ^ 24) : plD (n + 1) (.tup (l.map .int)) := ⟨by rw [List.length_map]; exact h, fun x hx => by
  obtain ⟨i, _, rfl⟩ := List.mem_map.mp hx
  cases n <;> exact trivial⟩
theorem plD_row {f : Int → Int} {lo : Int} {n : Nat} (h : n ≤ 2001) : plD 2 (rowD D.int f lo n) := by
  rw [rowD_rowI]
  refine ⟨(by decide : 2 < 2 ^ 24), fun x hx => ?_⟩
  simp only [List.mem_cons, List.not_mem_nil, or_false] at hx
  rcases hx with rfl | rfl
  · exact trivial
  · exact plD_ints 0 (by rw [List.length_map, List.length_range]; omega)
theorem plD_qD (q : Rat) : plD 2 (qD q) := plD_ints 1 (l := [q.num, q.den]) (by simp only [List.length_cons, List.length_nil]; omega)
def in_e (S__law_same : SP3) : WS := (wIfS (wNotT (wTru (wCall S__law_same (wCons (wVar 7) (wCons (wBin oAt (wVar 6) (wC (.int 1))) wNil)))))
  (wRet (wC (.bl false)))
  wNext)
def in_d (S__law_same S_handed_rest : SP3) : WS := (wSeq (wAsg (wIf (wTst (wBin oGt (wVar 2) (wC (.int 0)))) (wCall S_handed_rest (wCons (wVar 4) (wCons (wVar 3) (wCons (wVar 5) wNil)))) (wCallK S_handed_rest (permK 3 [2, 1, 0]) (wCons (wVar 5) (wCons (wVar 3) (wCons (wVar 4) wNil))))) (wGn 7))
  (in_e S__law_same))
def in_c (S__law_same S_handed_rest : SP3) : WS := (wSeq (wIfS (wNotT (wTru (wCall S__law_same (wCons (wVar 7) (wCons (wBin oAt (wVar 6) (wC (.int 0))) wNil)))))
  (wRet (wC (.bl false)))
  wNext)
  (in_d S__law_same S_handed_rest))
def in_b (S_handed S__law_same S_handed_rest : SP3) : WS := (wSeq (wAsg (wIf (wTst (wBin oGt (wVar 2) (wC (.int 0)))) (wCall S_handed (wCons (wVar 4) (wCons (wVar 3) (wCons (wVar 5) wNil)))) (wCallK S_handed (permK 3 [2, 1, 0]) (wCons (wVar 5) (wCons (wVar 3) (wCons (wVar 4) wNil))))) (wGn 7))
  (in_c S__law_same S_handed_rest))
def in_body (S__law_handed S_handed S__law_same S_handed_rest : SP3) : WS :=
  (wSeq (wAsg (wCall S__law_handed (wCons (wVar 4) (wCons (wVar 3) (wCons (wVar 5) wNil)))) (wGn 6))
  (in_b S_handed S__law_same S_handed_rest))
theorem if_both {p : Prop} [Decidable p] {A : Prop} (h : A) : (if decide p = true then A else A) := by split <;> exact h
theorem in_body_ok {E : Ends3} {M : Mem} {s : List (Int × Rat)} {rule : Str} {lo t : Int} {xs : List Int} {x0 x1 x6 x7 : Option D} (hs : SumOk s) (hx : RowOk lo xs)
    (h : ∀ y6 y7, E.nx [x0, x1, some (.int t), some (.str rule), some (sD s), some (rowI lo xs), y6, y7] M) : in_body S__law_handed S_handed (S_same 2) S_handed_rest E [x0, x1, some (.int t), some (.str rule), some (sD s), some (rowI lo xs), x6, x7] M := by
  show S__law_handed [sD s, .str rule, rowI lo xs] M fun d M1 => in_b S_handed (S_same 2) S_handed_rest E [x0, x1, some (.int t), some (.str rule), some (sD s), some (rowI lo xs), some d, x7] M1
  refine ⟨s, rule, lo, xs, rfl, hs, hx, fun lo' n lo2 n2 t1 t2 => ?_⟩
  have b1 := F_trim hs hx t1
  have n2b : n2 ≤ 2001 := by
    rcases t2 with ⟨rfl, _, _⟩ | ⟨a1, a2, a3, _⟩
    · omega
    · have hin : ∀ p, hF rule (FF lo xs s) lo' n p ≠ 0 → lo' ≤ p ∧ p < lo' + n := fun p hp => by
        refine Classical.byContradiction fun hn => hp ?_
        unfold hF
        rw [if_neg hn]
      have c1 := hin _ a2
      have c2 := hin _ a3
      omega
  show (if decide (0 < t) = true then S_handed [sD s, .str rule, rowI lo xs] M (fun d M1 => in_c (S_same 2) S_handed_rest E [x0, x1, some (.int t), some (.str rule), some (sD s), some (rowI lo xs), some (.tup [rowD D.int (hF rule (FF lo xs s) lo' n) lo2 n2, qD (lft rule (FF lo xs s) lo' n)]), some d] M1) else S_handed [sD s, .str rule, rowI lo xs] M (fun d M1 => in_c (S_same 2) S_handed_rest E [x0, x1, some (.int t), some (.str rule), some (sD s), some (rowI lo xs), some (.tup [rowD D.int (hF rule (FF lo xs s) lo' n) lo2 n2, qD (lft rule (FF lo xs s) lo' n)]), some d] M1))
  refine if_both ⟨s, rule, lo, xs, rfl, hs, hx, fun la na l2a n2a t1a t2a => ?_⟩
  obtain ⟨rfl, rfl⟩ := t1.unique t1a
  obtain ⟨rfl, rfl⟩ := t2.unique t2a
  show S_same 2 [rowD D.int (hF rule (FF lo xs s) lo' n) lo2 n2, rowD D.int (hF rule (FF lo xs s) lo' n) lo2 n2] M fun d M1 => match d.truth M1 with
    | some k => (if (!k) = true then wRet (wC (.bl false)) { E with nx := in_d (S_same 2) S_handed_rest E } [x0, x1, some (.int t), some (.str rule), some (sD s), some (rowI lo xs), some (.tup [rowD D.int (hF rule (FF lo xs s) lo' n) lo2 n2, qD (lft rule (FF lo xs s) lo' n)]), some (rowD D.int (hF rule (FF lo xs s) lo' n) lo2 n2)] M1 else in_d (S_same 2) S_handed_rest E [x0, x1, some (.int t), some (.str rule), some (sD s), some (rowI lo xs), some (.tup [rowD D.int (hF rule (FF lo xs s) lo' n) lo2 n2, qD (lft rule (FF lo xs s) lo' n)]), some (rowD D.int (hF rule (FF lo xs s) lo' n) lo2 n2)] M1)
    | none => False
  refine ⟨_, rfl, plD_row n2b, ?_⟩
  show (if decide (0 < t) = true then S_handed_rest [sD s, .str rule, rowI lo xs] M (fun d M1 => in_e (S_same 2) E [x0, x1, some (.int t), some (.str rule), some (sD s), some (rowI lo xs), some (.tup [rowD D.int (hF rule (FF lo xs s) lo' n) lo2 n2, qD (lft rule (FF lo xs s) lo' n)]), some d] M1) else S_handed_rest [sD s, .str rule, rowI lo xs] M (fun d M1 => in_e (S_same 2) E [x0, x1, some (.int t), some (.str rule), some (sD s), some (rowI lo xs), some (.tup [rowD D.int (hF rule (FF lo xs s) lo' n) lo2 n2, qD (lft rule (FF lo xs s) lo' n)]), some d] M1))
  refine if_both ⟨s, rule, lo, xs, rfl, hs, hx, fun la na t1a => ?_⟩
  obtain ⟨rfl, rfl⟩ := t1.unique t1a
  show S_same 2 [qD (lft rule (FF lo xs s) lo' n), qD (lft rule (FF lo xs s) lo' n)] M fun d M1 => match d.truth M1 with
    | some k => (if (!k) = true then wRet (wC (.bl false)) E [x0, x1, some (.int t), some (.str rule), some (sD s), some (rowI lo xs), some (.tup [rowD D.int (hF rule (FF lo xs s) lo' n) lo2 n2, qD (lft rule (FF lo xs s) lo' n)]), some (qD (lft rule (FF lo xs s) lo' n))] M1 else E.nx [x0, x1, some (.int t), some (.str rule), some (sD s), some (rowI lo xs), some (.tup [rowD D.int (hF rule (FF lo xs s) lo' n) lo2 n2, qD (lft rule (FF lo xs s) lo' n)]), some (qD (lft rule (FF lo xs s) lo' n))] M1)
    | none => False
  refine ⟨_, rfl, plD_qD _, ?_⟩
  exact h _ _
def law_loop (S__law_case S__law_handed S_handed S__law_same S_handed_rest : SP3) : WS :=
  (wSeq (wAsg (wCall S__law_case (wCons (wVar 1) wNil)) (wGtup 2 (wGcons (wGn 4) (wGcons (wGn 5) wGnil))))
  (wFor (wIterT (wTup (wCons (wC (.str "down")) (wCons (wC (.str "up")) (wCons (wC (.str "near")) (wCons (wC (.str "low")) wNil)))))) (wGn 3)
  (in_body S__law_handed S_handed S__law_same S_handed_rest)))
theorem shr_bag {pre : Mem} {B : Bag} : Shr 0 (pre ++ bagK pre.length B) (.loc (pre.length + 2)) (bagM B) (.loc 2) := by
  have h := shr_news (n := 0) (ks := [pre.length, pre.length + 1, pre.length + 2]) (M' := pre ++ bagK pre.length B) (obs := bagM B) (d := .loc (pre.length + 2)) (d'' := .loc 2) (Nat.zero_le _) (by simp) (fun k hk => by
    simp only [List.mem_cons, List.not_mem_nil, or_false] at hk
    rw [List.length_append]
    have : (bagK pre.length B).length = 3 := rfl
    omega) rfl (fun i k ob e1 e2 => ?_) (fun ob hob => by rw [List.take_zero] at hob; cases hob) (fun ob hob => ?_) rfl (show 2 < 0 + 3 by decide)
  · exact h
  · match i, e1, e2 with
    | 0, e1, e2 =>
      cases e1
      cases e2
      rw [List.getElem?_append_right (Nat.le_refl _), Nat.sub_self]
      exact congrArg (fun z => some (Ob.lst z)) (rens_ints _ _).symm
    | 1, e1, e2 =>
      cases e1
      cases e2
      rw [List.getElem?_append_right (by omega), show pre.length + 1 - pre.length = 1 by omega]
      exact congrArg (fun z => some (Ob.lst z)) (rens_ints _ _).symm
    | 2, e1, e2 =>
      cases e1
      cases e2
      rw [List.getElem?_append_right (by omega), show pre.length + 2 - pre.length = 2 by omega]
      rfl
  · simp only [bagM, List.mem_cons, List.not_mem_nil, or_false] at hob
    rcases hob with rfl | rfl | rfl
    · exact wfs_ints _ _
    · exact wfs_ints _ _
    · exact ⟨trivial, trivial, show 0 < 3 by decide, show 1 < 3 by decide, trivial⟩
theorem P_law_1 (sc : List Int) (hl : sc.length ≤ 63) : W_law_1 S_bag S_case S__law_handed S_handed (S_same 2) S_handed_rest (ends1 N_law.length G_law) (start3 N_law [.rol (sc.map .int)]) [] ∧ W_law_1 S_bag S_case S__law_handed S_handed (S_same 2) S_handed_rest (ends1 N_law.length G_law) (start3 N_law [.loc 0]) [.lst (sc.map .int)] := by
  refine ⟨?_, ?_⟩
  · show S_bag [.rol (sc.map .int)] [] fun d M1 => nx1 8 G_law [some (.rol (sc.map .int)), some d, none, none, none, none, none, none] M1
    exact ⟨sc, .inl rfl, hl, fun B ok => ⟨rfl, _, _, _, rfl, shr_bag, rfl, B, rfl, ok⟩⟩
  · show S_bag [.loc 0] [.lst (sc.map .int)] fun d M1 => nx1 8 G_law [some (.loc 0), some d, none, none, none, none, none, none] M1
    exact ⟨sc, .inr ⟨0, rfl, rfl⟩, hl, fun B ok => ⟨rfl, _, _, _, rfl, shr_bag, rfl, B, rfl, ok⟩⟩
theorem P_law_2 (d : D) (M : Mem) (hG : G_law d M) : W_law_2 S_bag S_case S__law_handed S_handed (S_same 2) S_handed_rest endsT (env2 N_law.length d) M := by
  have hz : 3000 ≤ sizeLine := by rw [sizeLine_eq]; decide
  obtain ⟨rfl, B, rfl, ok⟩ := hG
  show inR 6 ∧ forW (fun _ => True) (wGn 2) (law_loop S_case S__law_handed S_handed (S_same 2) S_handed_rest) { endsT with nx := wRet (wC (.bl true)) endsT } (rgD 0 6) [none, some (.loc 2), none, none, none, none, none, none] (bagM B)
  refine ⟨⟨by decide, by decide⟩, ?_⟩
  refine for_inv (fun L env M' => ∃ (k : Nat) (B' : Bag) (e2 e3 e4 e5 e6 e7 : Option D), k ≤ 6 ∧ L = (rgD 0 6).drop k ∧ env = [none, some (.loc 2), e2, e3, e4, e5, e6, e7] ∧ M' = bagM B' ∧ B'.ok (50 * k)) (fun _ _ _ _ => trivial) ?_ ?_ _ _ _ ⟨0, B, none, none, none, none, none, none, Nat.zero_le _, rfl, rfl, rfl, ok⟩
  · rintro env M' ⟨k, B', e2, e3, e4, e5, e6, e7, hk, hL, rfl, rfl, ok'⟩
    exact rfl
  · rintro d L env M' E' ⟨k, B', e2, e3, e4, e5, e6, e7, hk, hL, rfl, rfl, ok'⟩ hnx hct hrt hbk
    obtain ⟨hkn, rfl, hL2⟩ := rgD_drop hL
    show S_case [.loc 2] (bagM B') fun d M1 => wGtup 2 (wGcons (wGn 4) (wGcons (wGn 5) wGnil)) d [none, some (.loc 2), some (.int (0 + (k : Int))), e3, e4, e5, e6, e7] M1 fun env1 M1 => wFor (wIterT (wTup (wCons (wC (.str "down")) (wCons (wC (.str "up")) (wCons (wC (.str "near")) (wCons (wC (.str "low")) wNil)))))) (wGn 3) (in_body S__law_handed S_handed (S_same 2) S_handed_rest) E' env1 M1
    refine ⟨B', 50 * k, [], rfl, by rw [List.append_nil], ok', by omega, fun B2 s lo xs ok2 hs hx => ?_⟩
    rw [List.append_nil]
    refine ⟨rfl, rfl, by decide, ?_⟩
    refine for_inv (fun L env M' => (∀ y ∈ L, ∃ r : Str, y = .str r) ∧ M' = bagM B2 ∧ ∃ e3 e6 e7 : Option D, env = [none, some (.loc 2), some (.int (0 + (k : Int))), e3, some (sD s), some (rowI lo xs), e6, e7]) (fun _ _ _ _ => trivial) ?_ ?_ _ _ _ ⟨?_, rfl, _, _, _, rfl⟩
    · rintro env M' ⟨_, rfl, e3, e6, e7, rfl⟩
      exact hnx _ _ ⟨k + 1, B2, _, _, _, _, _, _, hkn, hL2, rfl, rfl, ok2.mono (by omega)⟩
    · rintro d L env M' E2 ⟨hL, rfl, e3, e6, e7, rfl⟩ hnx2 hct2 hrt2 hbk2
      obtain ⟨rule, rfl⟩ := hL d List.mem_cons_self
      exact in_body_ok hs hx fun y6 y7 => hnx2 _ _ ⟨fun y hy => hL y (List.mem_cons_of_mem _ hy), rfl, _, _, _, rfl⟩
    · intro y hy
      simp only [List.mem_cons, List.not_mem_nil, or_false] at hy
      rcases hy with rfl | rfl | rfl | rfl <;> exact ⟨_, rfl⟩
end K75
set_option Elab.async false
set_option linter.all false
set_option maxRecDepth 100000
set_option maxHeartbeats 4000000
namespace K75
open PySem PySem.Spec PyProof.Rows L2 Gx R3
theorem fn_false {P : Program} {w : World} {K : PySem.W.Frag} {mg : Str → Option Value} {base : Heap} {T : List Addr} {x qual : Str} {st : Stmt} {f : Addr} {fd : FuncData} {ps : List Str} (k : Nat) (F : Fun K x qual st f fd) (hmg : mg x = some (.ref f)) (hb : Binds K fd ps []) : Fn3 P w K mg base T k x ps fun _ _ _ => False :=
  ⟨f, fd, hmg, ⟨fun vs H Q E h => by obtain ⟨_, _, _, _, _, _, h, _⟩ := h; exact h.elim, fun A outer s H args us vs Q E hr he hb hv h => by obtain ⟨_, _, _, _, _, _, h, _⟩ := h; exact h.elim⟩, F.kp, hb, let ⟨oc, od, _, _, _, _, _, _, osl, _, lk, _⟩ := F.ex; ⟨oc, od, osl, lk⟩⟩
theorem kb_len {n : Nat} {ix : List Nat} {ws : List Value} {m : Nat} (hl : (gK n ix [] ws).length = m + 1) : ws.length = n := by
  by_cases e : ws.length = n
  · exact e
  · have : (permK n ix ws).length = m + 1 := hl
    unfold permK at this
    rw [if_neg e] at this
    cases this
theorem builtM_of {base : Heap} {mg : Str → Option Value} {c P : Addr} (h : LamX.TabB base mg c P) : BuiltM base mg := by
  obtain ⟨bm, ob, b1, b2, _, _, b3, b4, b5, b6⟩ := h.bm
  exact ⟨bm, ob, b1, b2, b3, b4, b5, b6⟩
theorem all_mk {l : PySem.W.OpenLaw} {w : World} {K : PySem.W.Frag} {h : Heap} {mg : Str → Option Value} {fa : Addr} (X : K.In h) (G : h.Ns mainGlobals mg) (hfa : mg "law" = some (.ref fa))
    {f_divisor : Addr} {od_divisor an_divisor : Option Addr} {sl_divisor : Array (Option Value)} {oc_divisor kV_divisor dc_divisor pm_divisor cd_divisor ct_divisor : Value}
    {f_lowest : Addr} {od_lowest an_lowest : Option Addr} {sl_lowest : Array (Option Value)} {oc_lowest kV_lowest dc_lowest pm_lowest cd_lowest ct_lowest : Value}
    {f_plus : Addr} {od_plus an_plus : Option Addr} {sl_plus : Array (Option Value)} {oc_plus kV_plus dc_plus pm_plus cd_plus ct_plus : Value}
    {f_minus : Addr} {od_minus an_minus : Option Addr} {sl_minus : Array (Option Value)} {oc_minus kV_minus dc_minus pm_minus cd_minus ct_minus : Value}
    {f_rounded_by : Addr} {od_rounded_by an_rounded_by : Option Addr} {sl_rounded_by : Array (Option Value)} {oc_rounded_by kV_rounded_by dc_rounded_by pm_rounded_by cd_rounded_by ct_rounded_by : Value}
    {f_row_of : Addr} {od_row_of an_row_of : Option Addr} {sl_row_of : Array (Option Value)} {oc_row_of kV_row_of dc_row_of pm_row_of  ct_row_of : Value} {co_row_of Pt_row_of : Addr}
    {f_whole_row : Addr} {od_whole_row an_whole_row : Option Addr} {sl_whole_row : Array (Option Value)} {oc_whole_row kV_whole_row dc_whole_row pm_whole_row cd_whole_row ct_whole_row : Value}
    {f_fraction_row : Addr} {od_fraction_row an_fraction_row : Option Addr} {sl_fraction_row : Array (Option Value)} {oc_fraction_row kV_fraction_row dc_fraction_row pm_fraction_row cd_fraction_row ct_fraction_row : Value}
    {f_numbers_of : Addr} {od_numbers_of an_numbers_of : Option Addr} {sl_numbers_of : Array (Option Value)} {oc_numbers_of kV_numbers_of dc_numbers_of pm_numbers_of cd_numbers_of ct_numbers_of : Value}
    {f_done : Addr} {od_done an_done : Option Addr} {sl_done : Array (Option Value)} {oc_done kV_done dc_done pm_done cd_done ct_done : Value}
    {f_handed_by : Addr} {od_handed_by an_handed_by : Option Addr} {sl_handed_by : Array (Option Value)} {oc_handed_by kV_handed_by dc_handed_by pm_handed_by cd_handed_by ct_handed_by : Value}
    {f_handed : Addr} {od_handed an_handed : Option Addr} {sl_handed : Array (Option Value)} {oc_handed kV_handed dc_handed pm_handed cd_handed ct_handed : Value}
    {f_handed_rest : Addr} {od_handed_rest an_handed_rest : Option Addr} {sl_handed_rest : Array (Option Value)} {oc_handed_rest kV_handed_rest dc_handed_rest pm_handed_rest cd_handed_rest ct_handed_rest : Value}
    {f__law_bag : Addr} {od__law_bag an__law_bag : Option Addr} {sl__law_bag : Array (Option Value)} {oc__law_bag kV__law_bag dc__law_bag pm__law_bag cd__law_bag ct__law_bag : Value}
    {f__law_draw : Addr} {od__law_draw an__law_draw : Option Addr} {sl__law_draw : Array (Option Value)} {oc__law_draw kV__law_draw dc__law_draw pm__law_draw cd__law_draw ct__law_draw : Value}
    {f__law_pick : Addr} {od__law_pick an__law_pick : Option Addr} {sl__law_pick : Array (Option Value)} {oc__law_pick kV__law_pick dc__law_pick pm__law_pick cd__law_pick ct__law_pick : Value}
    {f__law_same : Addr} {od__law_same an__law_same : Option Addr} {sl__law_same : Array (Option Value)} {oc__law_same kV__law_same dc__law_same pm__law_same cd__law_same ct__law_same : Value}
    {f__law_gcd : Addr} {od__law_gcd an__law_gcd : Option Addr} {sl__law_gcd : Array (Option Value)} {oc__law_gcd kV__law_gcd dc__law_gcd pm__law_gcd cd__law_gcd ct__law_gcd : Value}
    {f__law_fr : Addr} {od__law_fr an__law_fr : Option Addr} {sl__law_fr : Array (Option Value)} {oc__law_fr kV__law_fr dc__law_fr pm__law_fr cd__law_fr ct__law_fr : Value}
    {f__law_plus : Addr} {od__law_plus an__law_plus : Option Addr} {sl__law_plus : Array (Option Value)} {oc__law_plus kV__law_plus dc__law_plus pm__law_plus cd__law_plus ct__law_plus : Value}
    {f__law_round : Addr} {od__law_round an__law_round : Option Addr} {sl__law_round : Array (Option Value)} {oc__law_round kV__law_round dc__law_round pm__law_round cd__law_round ct__law_round : Value}
    {f__law_row : Addr} {od__law_row an__law_row : Option Addr} {sl__law_row : Array (Option Value)} {oc__law_row kV__law_row dc__law_row pm__law_row cd__law_row ct__law_row : Value}
    {f__law_draw_row : Addr} {od__law_draw_row an__law_draw_row : Option Addr} {sl__law_draw_row : Array (Option Value)} {oc__law_draw_row kV__law_draw_row dc__law_draw_row pm__law_draw_row cd__law_draw_row ct__law_draw_row : Value}
    {f__law_done : Addr} {od__law_done an__law_done : Option Addr} {sl__law_done : Array (Option Value)} {oc__law_done kV__law_done dc__law_done pm__law_done cd__law_done ct__law_done : Value}
    {f__law_numbers : Addr} {od__law_numbers an__law_numbers : Option Addr} {sl__law_numbers : Array (Option Value)} {oc__law_numbers kV__law_numbers dc__law_numbers pm__law_numbers cd__law_numbers ct__law_numbers : Value}
    {f__law_sum : Addr} {od__law_sum an__law_sum : Option Addr} {sl__law_sum : Array (Option Value)} {oc__law_sum kV__law_sum dc__law_sum pm__law_sum cd__law_sum ct__law_sum : Value}
    {f__law_handed : Addr} {od__law_handed an__law_handed : Option Addr} {sl__law_handed : Array (Option Value)} {oc__law_handed kV__law_handed dc__law_handed pm__law_handed cd__law_handed ct__law_handed : Value}
    {f__law_case : Addr} {od__law_case an__law_case : Option Addr} {sl__law_case : Array (Option Value)} {oc__law_case kV__law_case dc__law_case pm__law_case cd__law_case ct__law_case : Value}
    {f_law : Addr} {od_law an_law : Option Addr} {sl_law : Array (Option Value)} {oc_law kV_law dc_law pm_law cd_law ct_law : Value}
    {cf_NOTHING : Addr} {cs_NOTHING : Array (Option Value)} {ci_NOTHING : Array Value} {cn_NOTHING : Nat} {cd_NOTHING : Option Addr}
    (a_divisor : PySem.W.nsIn K mainGlobals "divisor" = some (some (.ref f_divisor)))
    (l_divisor : K.lookup f_divisor = some ⟨oc_divisor, od_divisor, .func (PySem.W.fnOf "divisor" "divisor" (defArgs st_divisor) (defBody st_divisor) (defScope st_divisor) .none kV_divisor dc_divisor pm_divisor an_divisor cd_divisor ct_divisor), sl_divisor⟩)
    (c_divisor : PySem.W.codeIn K cd_divisor "divisor" = true)
    (k_divisor : PySem.W.keepIn K (.ref f_divisor) = true)
    (a_lowest : PySem.W.nsIn K mainGlobals "lowest" = some (some (.ref f_lowest)))
    (l_lowest : K.lookup f_lowest = some ⟨oc_lowest, od_lowest, .func (PySem.W.fnOf "lowest" "lowest" (defArgs st_lowest) (defBody st_lowest) (defScope st_lowest) .none kV_lowest dc_lowest pm_lowest an_lowest cd_lowest ct_lowest), sl_lowest⟩)
    (c_lowest : PySem.W.codeIn K cd_lowest "lowest" = true)
    (k_lowest : PySem.W.keepIn K (.ref f_lowest) = true)
    (a_plus : PySem.W.nsIn K mainGlobals "plus" = some (some (.ref f_plus)))
    (l_plus : K.lookup f_plus = some ⟨oc_plus, od_plus, .func (PySem.W.fnOf "plus" "plus" (defArgs st_plus) (defBody st_plus) (defScope st_plus) .none kV_plus dc_plus pm_plus an_plus cd_plus ct_plus), sl_plus⟩)
    (c_plus : PySem.W.codeIn K cd_plus "plus" = true)
    (k_plus : PySem.W.keepIn K (.ref f_plus) = true)
    (a_minus : PySem.W.nsIn K mainGlobals "minus" = some (some (.ref f_minus)))
    (l_minus : K.lookup f_minus = some ⟨oc_minus, od_minus, .func (PySem.W.fnOf "minus" "minus" (defArgs st_minus) (defBody st_minus) (defScope st_minus) .none kV_minus dc_minus pm_minus an_minus cd_minus ct_minus), sl_minus⟩)
    (c_minus : PySem.W.codeIn K cd_minus "minus" = true)
    (k_minus : PySem.W.keepIn K (.ref f_minus) = true)
    (a_rounded_by : PySem.W.nsIn K mainGlobals "rounded_by" = some (some (.ref f_rounded_by)))
    (l_rounded_by : K.lookup f_rounded_by = some ⟨oc_rounded_by, od_rounded_by, .func (PySem.W.fnOf "rounded_by" "rounded_by" (defArgs st_rounded_by) (defBody st_rounded_by) (defScope st_rounded_by) .none kV_rounded_by dc_rounded_by pm_rounded_by an_rounded_by cd_rounded_by ct_rounded_by), sl_rounded_by⟩)
    (c_rounded_by : PySem.W.codeIn K cd_rounded_by "rounded_by" = true)
    (k_rounded_by : PySem.W.keepIn K (.ref f_rounded_by) = true)
    (a_row_of : PySem.W.nsIn K mainGlobals "row_of" = some (some (.ref f_row_of)))
    (l_row_of : K.lookup f_row_of = some ⟨oc_row_of, od_row_of, .func (PySem.W.fnOf "row_of" "row_of" (defArgs st_row_of) (defBody st_row_of) (defScope st_row_of) .none kV_row_of dc_row_of pm_row_of an_row_of (.ref co_row_of) ct_row_of), sl_row_of⟩)
    (c_row_of : PySem.W.codeIn K (.ref co_row_of) "row_of" = true)
    (k_row_of : PySem.W.keepIn K (.ref f_row_of) = true)
    (t_row_of : PySem.W.tabIn K "row_of" = some (co_row_of, Pt_row_of))
    (n_row_of : K.lookup Pt_row_of = none)
    (a_whole_row : PySem.W.nsIn K mainGlobals "whole_row" = some (some (.ref f_whole_row)))
    (l_whole_row : K.lookup f_whole_row = some ⟨oc_whole_row, od_whole_row, .func (PySem.W.fnOf "whole_row" "whole_row" (defArgs st_whole_row) (defBody st_whole_row) (defScope st_whole_row) .none kV_whole_row dc_whole_row pm_whole_row an_whole_row cd_whole_row ct_whole_row), sl_whole_row⟩)
    (c_whole_row : PySem.W.codeIn K cd_whole_row "whole_row" = true)
    (k_whole_row : PySem.W.keepIn K (.ref f_whole_row) = true)
    (a_fraction_row : PySem.W.nsIn K mainGlobals "fraction_row" = some (some (.ref f_fraction_row)))
    (l_fraction_row : K.lookup f_fraction_row = some ⟨oc_fraction_row, od_fraction_row, .func (PySem.W.fnOf "fraction_row" "fraction_row" (defArgs st_fraction_row) (defBody st_fraction_row) (defScope st_fraction_row) .none kV_fraction_row dc_fraction_row pm_fraction_row an_fraction_row cd_fraction_row ct_fraction_row), sl_fraction_row⟩)
    (c_fraction_row : PySem.W.codeIn K cd_fraction_row "fraction_row" = true)
    (k_fraction_row : PySem.W.keepIn K (.ref f_fraction_row) = true)
    (a_numbers_of : PySem.W.nsIn K mainGlobals "numbers_of" = some (some (.ref f_numbers_of)))
    (l_numbers_of : K.lookup f_numbers_of = some ⟨oc_numbers_of, od_numbers_of, .func (PySem.W.fnOf "numbers_of" "numbers_of" (defArgs st_numbers_of) (defBody st_numbers_of) (defScope st_numbers_of) .none kV_numbers_of dc_numbers_of pm_numbers_of an_numbers_of cd_numbers_of ct_numbers_of), sl_numbers_of⟩)
    (c_numbers_of : PySem.W.codeIn K cd_numbers_of "numbers_of" = true)
    (k_numbers_of : PySem.W.keepIn K (.ref f_numbers_of) = true)
    (a_done : PySem.W.nsIn K mainGlobals "done" = some (some (.ref f_done)))
    (l_done : K.lookup f_done = some ⟨oc_done, od_done, .func (PySem.W.fnOf "done" "done" (defArgs st_done) (defBody st_done) (defScope st_done) .none kV_done dc_done pm_done an_done cd_done ct_done), sl_done⟩)
    (c_done : PySem.W.codeIn K cd_done "done" = true)
    (k_done : PySem.W.keepIn K (.ref f_done) = true)
    (a_handed_by : PySem.W.nsIn K mainGlobals "handed_by" = some (some (.ref f_handed_by)))
    (l_handed_by : K.lookup f_handed_by = some ⟨oc_handed_by, od_handed_by, .func (PySem.W.fnOf "handed_by" "handed_by" (defArgs st_handed_by) (defBody st_handed_by) (defScope st_handed_by) .none kV_handed_by dc_handed_by pm_handed_by an_handed_by cd_handed_by ct_handed_by), sl_handed_by⟩)
    (c_handed_by : PySem.W.codeIn K cd_handed_by "handed_by" = true)
    (k_handed_by : PySem.W.keepIn K (.ref f_handed_by) = true)
    (a_handed : PySem.W.nsIn K mainGlobals "handed" = some (some (.ref f_handed)))
    (l_handed : K.lookup f_handed = some ⟨oc_handed, od_handed, .func (PySem.W.fnOf "handed" "handed" (defArgs st_handed) (defBody st_handed) (defScope st_handed) .none kV_handed dc_handed pm_handed an_handed cd_handed ct_handed), sl_handed⟩)
    (c_handed : PySem.W.codeIn K cd_handed "handed" = true)
    (k_handed : PySem.W.keepIn K (.ref f_handed) = true)
    (a_handed_rest : PySem.W.nsIn K mainGlobals "handed_rest" = some (some (.ref f_handed_rest)))
    (l_handed_rest : K.lookup f_handed_rest = some ⟨oc_handed_rest, od_handed_rest, .func (PySem.W.fnOf "handed_rest" "handed_rest" (defArgs st_handed_rest) (defBody st_handed_rest) (defScope st_handed_rest) .none kV_handed_rest dc_handed_rest pm_handed_rest an_handed_rest cd_handed_rest ct_handed_rest), sl_handed_rest⟩)
    (c_handed_rest : PySem.W.codeIn K cd_handed_rest "handed_rest" = true)
    (k_handed_rest : PySem.W.keepIn K (.ref f_handed_rest) = true)
    (a__law_bag : PySem.W.nsIn K mainGlobals "_law_bag" = some (some (.ref f__law_bag)))
    (l__law_bag : K.lookup f__law_bag = some ⟨oc__law_bag, od__law_bag, .func (PySem.W.fnOf "_law_bag" "_law_bag" (defArgs st__law_bag) (defBody st__law_bag) (defScope st__law_bag) .none kV__law_bag dc__law_bag pm__law_bag an__law_bag cd__law_bag ct__law_bag), sl__law_bag⟩)
    (c__law_bag : PySem.W.codeIn K cd__law_bag "_law_bag" = true)
    (k__law_bag : PySem.W.keepIn K (.ref f__law_bag) = true)
    (a__law_draw : PySem.W.nsIn K mainGlobals "_law_draw" = some (some (.ref f__law_draw)))
    (l__law_draw : K.lookup f__law_draw = some ⟨oc__law_draw, od__law_draw, .func (PySem.W.fnOf "_law_draw" "_law_draw" (defArgs st__law_draw) (defBody st__law_draw) (defScope st__law_draw) .none kV__law_draw dc__law_draw pm__law_draw an__law_draw cd__law_draw ct__law_draw), sl__law_draw⟩)
    (c__law_draw : PySem.W.codeIn K cd__law_draw "_law_draw" = true)
    (k__law_draw : PySem.W.keepIn K (.ref f__law_draw) = true)
    (a__law_pick : PySem.W.nsIn K mainGlobals "_law_pick" = some (some (.ref f__law_pick)))
    (l__law_pick : K.lookup f__law_pick = some ⟨oc__law_pick, od__law_pick, .func (PySem.W.fnOf "_law_pick" "_law_pick" (defArgs st__law_pick) (defBody st__law_pick) (defScope st__law_pick) .none kV__law_pick dc__law_pick pm__law_pick an__law_pick cd__law_pick ct__law_pick), sl__law_pick⟩)
    (c__law_pick : PySem.W.codeIn K cd__law_pick "_law_pick" = true)
    (k__law_pick : PySem.W.keepIn K (.ref f__law_pick) = true)
    (a__law_same : PySem.W.nsIn K mainGlobals "_law_same" = some (some (.ref f__law_same)))
    (l__law_same : K.lookup f__law_same = some ⟨oc__law_same, od__law_same, .func (PySem.W.fnOf "_law_same" "_law_same" (defArgs st__law_same) (defBody st__law_same) (defScope st__law_same) .none kV__law_same dc__law_same pm__law_same an__law_same cd__law_same ct__law_same), sl__law_same⟩)
    (c__law_same : PySem.W.codeIn K cd__law_same "_law_same" = true)
    (k__law_same : PySem.W.keepIn K (.ref f__law_same) = true)
    (a__law_gcd : PySem.W.nsIn K mainGlobals "_law_gcd" = some (some (.ref f__law_gcd)))
    (l__law_gcd : K.lookup f__law_gcd = some ⟨oc__law_gcd, od__law_gcd, .func (PySem.W.fnOf "_law_gcd" "_law_gcd" (defArgs st__law_gcd) (defBody st__law_gcd) (defScope st__law_gcd) .none kV__law_gcd dc__law_gcd pm__law_gcd an__law_gcd cd__law_gcd ct__law_gcd), sl__law_gcd⟩)
    (c__law_gcd : PySem.W.codeIn K cd__law_gcd "_law_gcd" = true)
    (k__law_gcd : PySem.W.keepIn K (.ref f__law_gcd) = true)
    (a__law_fr : PySem.W.nsIn K mainGlobals "_law_fr" = some (some (.ref f__law_fr)))
    (l__law_fr : K.lookup f__law_fr = some ⟨oc__law_fr, od__law_fr, .func (PySem.W.fnOf "_law_fr" "_law_fr" (defArgs st__law_fr) (defBody st__law_fr) (defScope st__law_fr) .none kV__law_fr dc__law_fr pm__law_fr an__law_fr cd__law_fr ct__law_fr), sl__law_fr⟩)
    (c__law_fr : PySem.W.codeIn K cd__law_fr "_law_fr" = true)
    (k__law_fr : PySem.W.keepIn K (.ref f__law_fr) = true)
    (a__law_plus : PySem.W.nsIn K mainGlobals "_law_plus" = some (some (.ref f__law_plus)))
    (l__law_plus : K.lookup f__law_plus = some ⟨oc__law_plus, od__law_plus, .func (PySem.W.fnOf "_law_plus" "_law_plus" (defArgs st__law_plus) (defBody st__law_plus) (defScope st__law_plus) .none kV__law_plus dc__law_plus pm__law_plus an__law_plus cd__law_plus ct__law_plus), sl__law_plus⟩)
    (c__law_plus : PySem.W.codeIn K cd__law_plus "_law_plus" = true)
    (k__law_plus : PySem.W.keepIn K (.ref f__law_plus) = true)
    (a__law_round : PySem.W.nsIn K mainGlobals "_law_round" = some (some (.ref f__law_round)))
    (l__law_round : K.lookup f__law_round = some ⟨oc__law_round, od__law_round, .func (PySem.W.fnOf "_law_round" "_law_round" (defArgs st__law_round) (defBody st__law_round) (defScope st__law_round) .none kV__law_round dc__law_round pm__law_round an__law_round cd__law_round ct__law_round), sl__law_round⟩)
    (c__law_round : PySem.W.codeIn K cd__law_round "_law_round" = true)
    (k__law_round : PySem.W.keepIn K (.ref f__law_round) = true)
    (a__law_row : PySem.W.nsIn K mainGlobals "_law_row" = some (some (.ref f__law_row)))
    (l__law_row : K.lookup f__law_row = some ⟨oc__law_row, od__law_row, .func (PySem.W.fnOf "_law_row" "_law_row" (defArgs st__law_row) (defBody st__law_row) (defScope st__law_row) .none kV__law_row dc__law_row pm__law_row an__law_row cd__law_row ct__law_row), sl__law_row⟩)
    (c__law_row : PySem.W.codeIn K cd__law_row "_law_row" = true)
    (k__law_row : PySem.W.keepIn K (.ref f__law_row) = true)
    (a__law_draw_row : PySem.W.nsIn K mainGlobals "_law_draw_row" = some (some (.ref f__law_draw_row)))
    (l__law_draw_row : K.lookup f__law_draw_row = some ⟨oc__law_draw_row, od__law_draw_row, .func (PySem.W.fnOf "_law_draw_row" "_law_draw_row" (defArgs st__law_draw_row) (defBody st__law_draw_row) (defScope st__law_draw_row) .none kV__law_draw_row dc__law_draw_row pm__law_draw_row an__law_draw_row cd__law_draw_row ct__law_draw_row), sl__law_draw_row⟩)
    (c__law_draw_row : PySem.W.codeIn K cd__law_draw_row "_law_draw_row" = true)
    (k__law_draw_row : PySem.W.keepIn K (.ref f__law_draw_row) = true)
    (a__law_done : PySem.W.nsIn K mainGlobals "_law_done" = some (some (.ref f__law_done)))
    (l__law_done : K.lookup f__law_done = some ⟨oc__law_done, od__law_done, .func (PySem.W.fnOf "_law_done" "_law_done" (defArgs st__law_done) (defBody st__law_done) (defScope st__law_done) .none kV__law_done dc__law_done pm__law_done an__law_done cd__law_done ct__law_done), sl__law_done⟩)
    (c__law_done : PySem.W.codeIn K cd__law_done "_law_done" = true)
    (k__law_done : PySem.W.keepIn K (.ref f__law_done) = true)
    (a__law_numbers : PySem.W.nsIn K mainGlobals "_law_numbers" = some (some (.ref f__law_numbers)))
    (l__law_numbers : K.lookup f__law_numbers = some ⟨oc__law_numbers, od__law_numbers, .func (PySem.W.fnOf "_law_numbers" "_law_numbers" (defArgs st__law_numbers) (defBody st__law_numbers) (defScope st__law_numbers) .none kV__law_numbers dc__law_numbers pm__law_numbers an__law_numbers cd__law_numbers ct__law_numbers), sl__law_numbers⟩)
    (c__law_numbers : PySem.W.codeIn K cd__law_numbers "_law_numbers" = true)
    (k__law_numbers : PySem.W.keepIn K (.ref f__law_numbers) = true)
    (a__law_sum : PySem.W.nsIn K mainGlobals "_law_sum" = some (some (.ref f__law_sum)))
    (l__law_sum : K.lookup f__law_sum = some ⟨oc__law_sum, od__law_sum, .func (PySem.W.fnOf "_law_sum" "_law_sum" (defArgs st__law_sum) (defBody st__law_sum) (defScope st__law_sum) .none kV__law_sum dc__law_sum pm__law_sum an__law_sum cd__law_sum ct__law_sum), sl__law_sum⟩)
    (c__law_sum : PySem.W.codeIn K cd__law_sum "_law_sum" = true)
    (k__law_sum : PySem.W.keepIn K (.ref f__law_sum) = true)
    (a__law_handed : PySem.W.nsIn K mainGlobals "_law_handed" = some (some (.ref f__law_handed)))
    (l__law_handed : K.lookup f__law_handed = some ⟨oc__law_handed, od__law_handed, .func (PySem.W.fnOf "_law_handed" "_law_handed" (defArgs st__law_handed) (defBody st__law_handed) (defScope st__law_handed) .none kV__law_handed dc__law_handed pm__law_handed an__law_handed cd__law_handed ct__law_handed), sl__law_handed⟩)
    (c__law_handed : PySem.W.codeIn K cd__law_handed "_law_handed" = true)
    (k__law_handed : PySem.W.keepIn K (.ref f__law_handed) = true)
    (a__law_case : PySem.W.nsIn K mainGlobals "_law_case" = some (some (.ref f__law_case)))
    (l__law_case : K.lookup f__law_case = some ⟨oc__law_case, od__law_case, .func (PySem.W.fnOf "_law_case" "_law_case" (defArgs st__law_case) (defBody st__law_case) (defScope st__law_case) .none kV__law_case dc__law_case pm__law_case an__law_case cd__law_case ct__law_case), sl__law_case⟩)
    (c__law_case : PySem.W.codeIn K cd__law_case "_law_case" = true)
    (k__law_case : PySem.W.keepIn K (.ref f__law_case) = true)
    (a_law : PySem.W.nsIn K mainGlobals "law" = some (some (.ref f_law)))
    (l_law : K.lookup f_law = some ⟨oc_law, od_law, .func (PySem.W.fnOf "law" "law" (defArgs st_law) (defBody st_law) (defScope st_law) .none kV_law dc_law pm_law an_law cd_law ct_law), sl_law⟩)
    (c_law : PySem.W.codeIn K cd_law "law" = true)
    (k_law : PySem.W.keepIn K (.ref f_law) = true)
    (z_abs : PySem.W.nsIn K mainGlobals "abs" = some none)
    (z_sorted : PySem.W.nsIn K mainGlobals "sorted" = some none)
    (z_tuple : PySem.W.nsIn K mainGlobals "tuple" = some none)
    (z_range : PySem.W.nsIn K mainGlobals "range" = some none)
    (z_enumerate : PySem.W.nsIn K mainGlobals "enumerate" = some none)
    (z_len : PySem.W.nsIn K mainGlobals "len" = some none)
    (z_int : PySem.W.nsIn K mainGlobals "int" = some none)
    (z_isinstance : PySem.W.nsIn K mainGlobals "isinstance" = some none)
    (z_bool : PySem.W.nsIn K mainGlobals "bool" = some none)
    (z_str : PySem.W.nsIn K mainGlobals "str" = some none)
    (z_dict : PySem.W.nsIn K mainGlobals "dict" = some none)
    (z_list : PySem.W.nsIn K mainGlobals "list" = some none)
    (a_NOTHING : PySem.W.nsIn K mainGlobals "NOTHING" = some (some (.ref cf_NOTHING)))
    (l_NOTHING : K.lookup cf_NOTHING = some ⟨.type "tuple", cd_NOTHING, .seq ci_NOTHING cn_NOTHING, cs_NOTHING⟩)
    (v_NOTHING : Vals [.int 0, .int 1] ci_NOTHING.toList)
    (s_NOTHING : ci_NOTHING.size ≤ sizeLine)
    (hC : ∀ p ∈ ([(co_row_of, Pt_row_of)] : List (Addr × Addr)), PySem.W.CodeHd h p.1 p.2 ∧ h.get? p.2 = some { cls := .none, data := .fields #[] }) :
    EndAt l w K 56 mg fa h := by
  have e := hfa.symm.trans (PySem.W.mg_of X G a_law)
  cases e
  have F_divisor := fun_mk (st := st_divisor) l_divisor c_divisor k_divisor
  have b_divisor := F_divisor.binds (ps := ["one", "other"]) fun _ _ _ _ _ _ us hl => match us, hl with | [_, _], _ => rfl
  have m_divisor := PySem.W.mg_of X G a_divisor
  have F_lowest := fun_mk (st := st_lowest) l_lowest c_lowest k_lowest
  have b_lowest := F_lowest.binds (ps := ["above", "below"]) fun _ _ _ _ _ _ us hl => match us, hl with | [_, _], _ => rfl
  have m_lowest := PySem.W.mg_of X G a_lowest
  have F_plus := fun_mk (st := st_plus) l_plus c_plus k_plus
  have b_plus := F_plus.binds (ps := ["one", "other"]) fun _ _ _ _ _ _ us hl => match us, hl with | [_, _], _ => rfl
  have m_plus := PySem.W.mg_of X G a_plus
  have F_minus := fun_mk (st := st_minus) l_minus c_minus k_minus
  have b_minus := F_minus.binds (ps := ["one", "other"]) fun _ _ _ _ _ _ us hl => match us, hl with | [_, _], _ => rfl
  have m_minus := PySem.W.mg_of X G a_minus
  have F_rounded_by := fun_mk (st := st_rounded_by) l_rounded_by c_rounded_by k_rounded_by
  have b_rounded_by := F_rounded_by.binds (ps := ["rule", "above", "below"]) fun _ _ _ _ _ _ us hl => match us, hl with | [_, _, _], _ => rfl
  have m_rounded_by := PySem.W.mg_of X G a_rounded_by
  have FC_row_of := funC_mk (st := st_row_of) l_row_of c_row_of k_row_of
  have F_row_of := FC_row_of.fun
  have b_row_of := F_row_of.binds (ps := ["numbers", "nothing"]) fun _ _ _ _ _ _ us hl => match us, hl with | [_, _], _ => rfl
  have m_row_of := PySem.W.mg_of X G a_row_of
  have F_whole_row := fun_mk (st := st_whole_row) l_whole_row c_whole_row k_whole_row
  have b_whole_row := F_whole_row.binds (ps := ["numbers"]) fun _ _ _ _ _ _ us hl => match us, hl with | [_], _ => rfl
  have m_whole_row := PySem.W.mg_of X G a_whole_row
  have F_fraction_row := fun_mk (st := st_fraction_row) l_fraction_row c_fraction_row k_fraction_row
  have b_fraction_row := F_fraction_row.binds (ps := ["numbers"]) fun _ _ _ _ _ _ us hl => match us, hl with | [_], _ => rfl
  have m_fraction_row := PySem.W.mg_of X G a_fraction_row
  have F_numbers_of := fun_mk (st := st_numbers_of) l_numbers_of c_numbers_of k_numbers_of
  have b_numbers_of := F_numbers_of.binds (ps := ["row"]) fun _ _ _ _ _ _ us hl => match us, hl with | [_], _ => rfl
  have m_numbers_of := PySem.W.mg_of X G a_numbers_of
  have F_done := fun_mk (st := st_done) l_done c_done k_done
  have b_done := F_done.binds (ps := ["s", "row"]) fun _ _ _ _ _ _ us hl => match us, hl with | [_, _], _ => rfl
  have m_done := PySem.W.mg_of X G a_done
  have F_handed_by := fun_mk (st := st_handed_by) l_handed_by c_handed_by k_handed_by
  have b_handed_by := F_handed_by.binds (ps := ["s", "rule", "row"]) fun _ _ _ _ _ _ us hl => match us, hl with | [_, _, _], _ => rfl
  have m_handed_by := PySem.W.mg_of X G a_handed_by
  have F_handed := fun_mk (st := st_handed) l_handed c_handed k_handed
  have b_handed := F_handed.binds (ps := ["s", "rule", "row"]) fun _ _ _ _ _ _ us hl => match us, hl with | [_, _, _], _ => rfl
  have m_handed := PySem.W.mg_of X G a_handed
  have F_handed_rest := fun_mk (st := st_handed_rest) l_handed_rest c_handed_rest k_handed_rest
  have b_handed_rest := F_handed_rest.binds (ps := ["s", "rule", "row"]) fun _ _ _ _ _ _ us hl => match us, hl with | [_, _, _], _ => rfl
  have m_handed_rest := PySem.W.mg_of X G a_handed_rest
  have F__law_bag := fun_mk (st := st__law_bag) l__law_bag c__law_bag k__law_bag
  have b__law_bag := F__law_bag.binds (ps := ["script"]) fun _ _ _ _ _ _ us hl => match us, hl with | [_], _ => rfl
  have m__law_bag := PySem.W.mg_of X G a__law_bag
  have F__law_draw := fun_mk (st := st__law_draw) l__law_draw c__law_draw k__law_draw
  have b__law_draw := F__law_draw.binds (ps := ["bag", "many"]) fun _ _ _ _ _ _ us hl => match us, hl with | [_, _], _ => rfl
  have m__law_draw := PySem.W.mg_of X G a__law_draw
  have F__law_pick := fun_mk (st := st__law_pick) l__law_pick c__law_pick k__law_pick
  have b__law_pick := F__law_pick.binds (ps := ["bag", "some"]) fun _ _ _ _ _ _ us hl => match us, hl with | [_, _], _ => rfl
  have m__law_pick := PySem.W.mg_of X G a__law_pick
  have F__law_same := fun_mk (st := st__law_same) l__law_same c__law_same k__law_same
  have b__law_same := F__law_same.binds (ps := ["found", "due"]) fun _ _ _ _ _ _ us hl => match us, hl with | [_, _], _ => rfl
  have m__law_same := PySem.W.mg_of X G a__law_same
  have F__law_gcd := fun_mk (st := st__law_gcd) l__law_gcd c__law_gcd k__law_gcd
  have b__law_gcd := F__law_gcd.binds (ps := ["a", "b"]) fun _ _ _ _ _ _ us hl => match us, hl with | [_, _], _ => rfl
  have m__law_gcd := PySem.W.mg_of X G a__law_gcd
  have F__law_fr := fun_mk (st := st__law_fr) l__law_fr c__law_fr k__law_fr
  have b__law_fr := F__law_fr.binds (ps := ["a", "b"]) fun _ _ _ _ _ _ us hl => match us, hl with | [_, _], _ => rfl
  have m__law_fr := PySem.W.mg_of X G a__law_fr
  have F__law_plus := fun_mk (st := st__law_plus) l__law_plus c__law_plus k__law_plus
  have b__law_plus := F__law_plus.binds (ps := ["a", "b"]) fun _ _ _ _ _ _ us hl => match us, hl with | [_, _], _ => rfl
  have m__law_plus := PySem.W.mg_of X G a__law_plus
  have F__law_round := fun_mk (st := st__law_round) l__law_round c__law_round k__law_round
  have b__law_round := F__law_round.binds (ps := ["rule", "a", "b"]) fun _ _ _ _ _ _ us hl => match us, hl with | [_, _, _], _ => rfl
  have m__law_round := PySem.W.mg_of X G a__law_round
  have F__law_row := fun_mk (st := st__law_row) l__law_row c__law_row k__law_row
  have b__law_row := F__law_row.binds (ps := ["numbers"]) fun _ _ _ _ _ _ us hl => match us, hl with | [_], _ => rfl
  have m__law_row := PySem.W.mg_of X G a__law_row
  have F__law_draw_row := fun_mk (st := st__law_draw_row) l__law_draw_row c__law_draw_row k__law_draw_row
  have b__law_draw_row := F__law_draw_row.binds (ps := ["bag", "most", "size"]) fun _ _ _ _ _ _ us hl => match us, hl with | [_, _, _], _ => rfl
  have m__law_draw_row := PySem.W.mg_of X G a__law_draw_row
  have F__law_done := fun_mk (st := st__law_done) l__law_done c__law_done k__law_done
  have b__law_done := F__law_done.binds (ps := ["s", "row"]) fun _ _ _ _ _ _ us hl => match us, hl with | [_, _], _ => rfl
  have m__law_done := PySem.W.mg_of X G a__law_done
  have F__law_numbers := fun_mk (st := st__law_numbers) l__law_numbers c__law_numbers k__law_numbers
  have b__law_numbers := F__law_numbers.binds (ps := ["row"]) fun _ _ _ _ _ _ us hl => match us, hl with | [_], _ => rfl
  have m__law_numbers := PySem.W.mg_of X G a__law_numbers
  have F__law_sum := fun_mk (st := st__law_sum) l__law_sum c__law_sum k__law_sum
  have b__law_sum := F__law_sum.binds (ps := ["bag", "taps", "shift", "belows", "above"]) fun _ _ _ _ _ _ us hl => match us, hl with | [_, _, _, _, _], _ => rfl
  have m__law_sum := PySem.W.mg_of X G a__law_sum
  have F__law_handed := fun_mk (st := st__law_handed) l__law_handed c__law_handed k__law_handed
  have b__law_handed := F__law_handed.binds (ps := ["s", "rule", "row"]) fun _ _ _ _ _ _ us hl => match us, hl with | [_, _, _], _ => rfl
  have m__law_handed := PySem.W.mg_of X G a__law_handed
  have F__law_case := fun_mk (st := st__law_case) l__law_case c__law_case k__law_case
  have b__law_case := F__law_case.binds (ps := ["bag"]) fun _ _ _ _ _ _ us hl => match us, hl with | [_], _ => rfl
  have m__law_case := PySem.W.mg_of X G a__law_case
  have F_law := fun_mk (st := st_law) l_law c_law k_law
  have b_law := F_law.binds (ps := ["script"]) fun _ _ _ _ _ _ us hl => match us, hl with | [_], _ => rfl
  have m_law := PySem.W.mg_of X G a_law
  have mz_abs := PySem.W.mg_none_of X G z_abs
  have mz_sorted := PySem.W.mg_none_of X G z_sorted
  have mz_tuple := PySem.W.mg_none_of X G z_tuple
  have mz_range := PySem.W.mg_none_of X G z_range
  have mz_enumerate := PySem.W.mg_none_of X G z_enumerate
  have mz_len := PySem.W.mg_none_of X G z_len
  have mz_int := PySem.W.mg_none_of X G z_int
  have mz_isinstance := PySem.W.mg_none_of X G z_isinstance
  have mz_bool := PySem.W.mg_none_of X G z_bool
  have mz_str := PySem.W.mg_none_of X G z_str
  have mz_dict := PySem.W.mg_none_of X G z_dict
  have mz_list := PySem.W.mg_none_of X G z_list
  have kb_handed_row_rule_s : ∀ f fd, mg "handed" = some (.ref f) → LookF K f fd → KBinds K fd ["s", "rule", "row"] ["row", "rule", "s"] (gK 3 [2, 1, 0]) (gK 3 [2, 1, 0]) := fun f fd hf ⟨oc, od, osl, lk⟩ => by
    rw [m_handed] at hf
    cases hf
    rw [l_handed] at lk
    cases lk
    refine ⟨fun s us ws _ hl => ?_, fun r h => gK_vals r h _ _⟩
    cases us with
    | nil =>
      have h3 := kb_len hl
      match ws, h3 with
      | [_, _, _], _ => exact .of_eq rfl
    | cons _ _ => cases hl
  have kb_handed_rest_row_rule_s : ∀ f fd, mg "handed_rest" = some (.ref f) → LookF K f fd → KBinds K fd ["s", "rule", "row"] ["row", "rule", "s"] (gK 3 [2, 1, 0]) (gK 3 [2, 1, 0]) := fun f fd hf ⟨oc, od, osl, lk⟩ => by
    rw [m_handed_rest] at hf
    cases hf
    rw [l_handed_rest] at lk
    cases lk
    refine ⟨fun s us ws _ hl => ?_, fun r h => gK_vals r h _ _⟩
    cases us with
    | nil =>
      have h3 := kb_len hl
      match ws, h3 with
      | [_, _, _], _ => exact .of_eq rfl
    | cons _ _ => cases hl
  refine ⟨PySem.W.fnOf "law" "law" (defArgs st_law) (defBody st_law) (defScope st_law) .none kV_law dc_law pm_law an_law cd_law ct_law, [(co_row_of, Pt_row_of)], hC, ?_, fun s u => .of_eq rfl, fun base hKb hns hTB => ?_⟩
  · intro p hp
    simp only [List.mem_cons, List.not_mem_nil, or_false] at hp
    subst hp
    exact n_row_of
  have hbm : BuiltM base mg := builtM_of (hTB _ List.mem_cons_self)
  have g_NOTHING : GlobC K mg "NOTHING" (qD 0) := ⟨_, .ref cf_NOTHING, PySem.W.mg_of X G a_NOTHING, rfl, fun ρ H => ⟨cf_NOTHING, [.int 0, .int 1], rfl, .inr ⟨_, ci_NOTHING, cn_NOTHING, l_NOTHING, rfl, rfl, s_NOTHING, v_NOTHING⟩, ⟨_, _, rfl, rfl, _, _, rfl, rfl, rfl⟩⟩⟩
  have G_divisor : Fn3 l.prog w K mg base [Pt_row_of] 8 "divisor" ["one", "other"] (S_divisor) := ok_divisor F_divisor m_divisor b_divisor mz_abs (fun ds M R h => by
    rcases h with ⟨_, _, rfl, _⟩ <;> rfl) (P_divisor)
  have G_lowest : Fn3 l.prog w K mg base [Pt_row_of] 16 "lowest" ["above", "below"] (S_lowest) := ok_lowest F_lowest m_lowest b_lowest G_divisor (fun ds M R h => by
    rcases h with ⟨_, _, rfl, _⟩ <;> rfl) (P_lowest)
  have G_plus : Fn3 l.prog w K mg base [Pt_row_of] 24 "plus" ["one", "other"] (S_pm (· + ·)) := ok_plus F_plus m_plus b_plus G_lowest (fun ds M R h => by
    rcases h with ⟨_, _, _, _, rfl, _⟩ <;> rfl) (P_plus)
  have G_minus : Fn3 l.prog w K mg base [Pt_row_of] 24 "minus" ["one", "other"] (S_pm (· - ·)) := ok_minus F_minus m_minus b_minus G_lowest (fun ds M R h => by
    rcases h with ⟨_, _, _, _, rfl, _⟩ <;> rfl) (P_minus)
  have G_rounded_by : Fn3 l.prog w K mg base [Pt_row_of] 8 "rounded_by" ["rule", "above", "below"] (S_rnd) := ok_rounded_by F_rounded_by m_rounded_by b_rounded_by  (fun ds M R h => by
    rcases h with ⟨_, _, _, rfl, _⟩ <;> rfl) (P_rounded_by)
  have G_row_of : Fn3 l.prog w K mg base [Pt_row_of] 8 "row_of" ["numbers", "nothing"] (S_row_of) := ok_row_of FC_row_of m_row_of b_row_of (hTB (co_row_of, Pt_row_of) (by simp)).code (by simp) mz_sorted mz_tuple mz_range hbm (fun ds M R h => by
    rcases h with ⟨_, _, _, rfl, _⟩ | ⟨_, _, _, rfl, _⟩ <;> rfl) (P_row_of)
  have G_whole_row : Fn3 l.prog w K mg base [Pt_row_of] 16 "whole_row" ["numbers"] (S_row1 D.int (0 : Int)) := ok_whole_row F_whole_row m_whole_row b_whole_row G_row_of (fun ds M R h => by
    rcases h with ⟨_, _, _, rfl, _⟩ <;> rfl) (P_whole_row)
  have G_fraction_row : Fn3 l.prog w K mg base [Pt_row_of] 16 "fraction_row" ["numbers"] (S_row1 qD (0 : Rat)) := ok_fraction_row F_fraction_row m_fraction_row b_fraction_row G_row_of g_NOTHING (fun ds M R h => by
    rcases h with ⟨_, _, _, rfl, _⟩ <;> rfl) (P_fraction_row)
  have G_numbers_of : Fn3 l.prog w K mg base [Pt_row_of] 8 "numbers_of" ["row"] (S_numbers) := ok_numbers_of F_numbers_of m_numbers_of b_numbers_of mz_enumerate (fun ds M R h => by
    rcases h with ⟨_, _, rfl, _⟩ <;> rfl) (P_numbers_of)
  have G_done : Fn3 l.prog w K mg base [Pt_row_of] 32 "done" ["s", "row"] (S_done) := ok_done F_done m_done b_done G_plus G_fraction_row g_NOTHING mz_enumerate (fun ds M R h => by
    rcases h with ⟨_, _, _, rfl, _⟩ <;> rfl) (P_done)
  have G_handed_by : Fn3 l.prog w K mg base [Pt_row_of] 40 "handed_by" ["s", "rule", "row"] (S_handed_by) := ok_handed_by F_handed_by m_handed_by b_handed_by G_done G_numbers_of G_plus G_rounded_by G_minus g_NOTHING mz_len mz_range (fun ds M R h => by
    rcases h with ⟨_, _, _, _, rfl, _⟩ <;> rfl) (P_handed_by)
  have G_handed : Fn3 l.prog w K mg base [Pt_row_of] 48 "handed" ["s", "rule", "row"] (S_handed) := ok_handed F_handed m_handed b_handed G_whole_row G_handed_by (fun ds M R h => by
    rcases h with ⟨_, _, _, _, rfl, _⟩ <;> rfl) (P_handed)
  have G_handed_rest : Fn3 l.prog w K mg base [Pt_row_of] 48 "handed_rest" ["s", "rule", "row"] (S_handed_rest) := ok_handed_rest F_handed_rest m_handed_rest b_handed_rest G_handed_by (fun ds M R h => by
    rcases h with ⟨_, _, _, _, rfl, _⟩ <;> rfl) (P_handed_rest)
  have G__law_bag : Fn3 l.prog w K mg base [Pt_row_of] 8 "_law_bag" ["script"] (S_bag) := ok__law_bag F__law_bag m__law_bag b__law_bag mz_int mz_abs (fun ds M R h => by
    rcases h with ⟨_, rfl | ⟨_, rfl, _⟩, _⟩ <;> rfl) (P__law_bag)
  have G__law_draw : Fn3 l.prog w K mg base [Pt_row_of] 8 "_law_draw" ["bag", "many"] (S_draw) := ok__law_draw F__law_draw m__law_draw b__law_draw mz_len mz_int (fun ds M R h => by
    rcases h with ⟨_, _, _, _, rfl, _⟩ <;> rfl) (P__law_draw)
  have G__law_pick : Fn3 l.prog w K mg base [Pt_row_of] 16 "_law_pick" ["bag", "some"] (S_pick) := ok__law_pick F__law_pick m__law_pick b__law_pick G__law_draw mz_len (fun ds M R h => by
    rcases h with ⟨_, _, _, _, _, rfl, _⟩ <;> rfl) (P__law_pick)
  have Gr0 : Fn3 l.prog w K mg base [Pt_row_of] 2 "_law_same" ["found", "due"] (fun _ _ _ => False) := fn_false 2 F__law_same m__law_same b__law_same
  have Gr1 : Fn3 l.prog w K mg base [Pt_row_of] 4 "_law_same" ["found", "due"] (S_same 0) := ok__law_same F__law_same m__law_same b__law_same Gr0 mz_isinstance mz_bool mz_int mz_str mz_tuple mz_len mz_range (fun ds M R h => by
    rcases h with ⟨_, rfl, _⟩ <;> rfl) (P__law_same 0 _ (fun _ _ _ h => (h rfl).elim))
  have Gr2 : Fn3 l.prog w K mg base [Pt_row_of] 6 "_law_same" ["found", "due"] (S_same 1) := ok__law_same F__law_same m__law_same b__law_same Gr1 mz_isinstance mz_bool mz_int mz_str mz_tuple mz_len mz_range (fun ds M R h => by
    rcases h with ⟨_, rfl, _⟩ <;> rfl) (P__law_same 1 _ (fun d M R _ hp hR => ⟨d, rfl, hp, hR⟩))
  have G__law_same : Fn3 l.prog w K mg base [Pt_row_of] 8 "_law_same" ["found", "due"] (S_same 2) := ok__law_same F__law_same m__law_same b__law_same Gr2 mz_isinstance mz_bool mz_int mz_str mz_tuple mz_len mz_range (fun ds M R h => by
    rcases h with ⟨_, rfl, _⟩ <;> rfl) (P__law_same 2 _ (fun d M R _ hp hR => ⟨d, rfl, hp, hR⟩))
  have G__law_gcd : Fn3 l.prog w K mg base [Pt_row_of] 8 "_law_gcd" ["a", "b"] (S__law_gcd) := ok__law_gcd F__law_gcd m__law_gcd b__law_gcd mz_abs mz_range mz_int (fun ds M R h => by
    rcases h with ⟨_, _, rfl, _⟩ <;> rfl) (P__law_gcd)
  have G__law_fr : Fn3 l.prog w K mg base [Pt_row_of] 16 "_law_fr" ["a", "b"] (S_lowest) := ok__law_fr F__law_fr m__law_fr b__law_fr G__law_gcd (fun ds M R h => by
    rcases h with ⟨_, _, rfl, _⟩ <;> rfl) (P__law_fr)
  have G__law_plus : Fn3 l.prog w K mg base [Pt_row_of] 24 "_law_plus" ["a", "b"] (S_pm (· + ·)) := ok__law_plus F__law_plus m__law_plus b__law_plus G__law_fr (fun ds M R h => by
    rcases h with ⟨_, _, _, _, rfl, _⟩ <;> rfl) (P__law_plus)
  have G__law_round : Fn3 l.prog w K mg base [Pt_row_of] 8 "_law_round" ["rule", "a", "b"] (S_rnd) := ok__law_round F__law_round m__law_round b__law_round  (fun ds M R h => by
    rcases h with ⟨_, _, _, rfl, _⟩ <;> rfl) (P__law_round)
  have G__law_row : Fn3 l.prog w K mg base [Pt_row_of] 8 "_law_row" ["numbers"] (S_row1 D.int (0 : Int)) := ok__law_row F__law_row m__law_row b__law_row mz_sorted mz_tuple mz_range (fun ds M R h => by
    rcases h with ⟨_, _, _, rfl, _⟩ <;> rfl) (P__law_row)
  have G__law_draw_row : Fn3 l.prog w K mg base [Pt_row_of] 16 "_law_draw_row" ["bag", "most", "size"] (S_draw_row) := ok__law_draw_row F__law_draw_row m__law_draw_row b__law_draw_row G__law_draw G__law_row mz_dict mz_range (fun ds M R h => by
    rcases h with ⟨_, _, _, _, rfl, _⟩ <;> rfl) (P__law_draw_row)
  have G__law_numbers : Fn3 l.prog w K mg base [Pt_row_of] 8 "_law_numbers" ["row"] (S_numbers) := ok__law_numbers F__law_numbers m__law_numbers b__law_numbers mz_dict mz_len mz_range (fun ds M R h => by
    rcases h with ⟨_, _, rfl, _⟩ <;> rfl) (P__law_numbers)
  have G__law_done : Fn3 l.prog w K mg base [Pt_row_of] 32 "_law_done" ["s", "row"] (S__law_done) := ok__law_done F__law_done m__law_done b__law_done G__law_numbers G__law_plus G__law_fr mz_dict (fun ds M R h => by
    rcases h with ⟨_, _, _, rfl, _⟩ <;> rfl) (P__law_done)
  have G__law_sum : Fn3 l.prog w K mg base [Pt_row_of] 24 "_law_sum" ["bag", "taps", "shift", "belows", "above"] (S_sum) := ok__law_sum F__law_sum m__law_sum b__law_sum G__law_draw G__law_fr G__law_pick mz_range mz_tuple mz_sorted (fun ds M R h => by
    rcases h with ⟨_, _, _, _, _, rfl, _⟩ <;> rfl) (P__law_sum)
  have G__law_handed : Fn3 l.prog w K mg base [Pt_row_of] 40 "_law_handed" ["s", "rule", "row"] (S__law_handed) := ok__law_handed F__law_handed m__law_handed b__law_handed G__law_done G__law_plus G__law_round G__law_fr G__law_row mz_sorted mz_list mz_range (fun ds M R h => by
    rcases h with ⟨_, _, _, _, rfl, _⟩ <;> rfl) (P__law_handed)
  have G__law_case : Fn3 l.prog w K mg base [Pt_row_of] 32 "_law_case" ["bag"] (S_case) := ok__law_case F__law_case m__law_case b__law_case G__law_draw G__law_pick G__law_draw_row G__law_sum mz_len (fun ds M R h => by
    rcases h with ⟨_, _, _, rfl, _⟩ <;> rfl) (P__law_case)
  exact ok_law F_law G__law_bag G__law_case G__law_handed G_handed G__law_same G_handed_rest mz_range kb_handed_row_rule_s kb_handed_rest_row_rule_s (Gd := G_law) P_law_1 P_law_2
end K75
set_option Elab.async false
set_option linter.all false
set_option maxRecDepth 100000
open PySem PySem.W PyProof.Rows
set_option maxHeartbeats 0 in
theorem PySem.Challenge.cw_roundladder_k75_whole_rests_handed_on_holds : PySem.Challenge.rw_roundladder_k75_whole_rests_handed_on.Holds := by
  w_on; o_law; k_head; (case hw => w_witness2)
  k_fill
  refine R3.walk_end (l := PySem.Challenge.rw_roundladder_k75_whole_rests_handed_on) (k := 56) rfl rfl ⟨rfl, by decide, by decide⟩ (fun w h Y => PySem.W.kIn_of Y) ?F
  case F =>
    intro w mg mb mean fa h KX T hmg
    refine' K75.all_mk KX T.g hmg ?a_divisor ?l_divisor ?c_divisor ?k_divisor ?a_lowest ?l_lowest ?c_lowest ?k_lowest ?a_plus ?l_plus ?c_plus ?k_plus ?a_minus ?l_minus ?c_minus ?k_minus ?a_rounded_by ?l_rounded_by ?c_rounded_by ?k_rounded_by ?a_row_of ?l_row_of ?c_row_of ?k_row_of ?t_row_of ?n_row_of ?a_whole_row ?l_whole_row ?c_whole_row ?k_whole_row ?a_fraction_row ?l_fraction_row ?c_fraction_row ?k_fraction_row ?a_numbers_of ?l_numbers_of ?c_numbers_of ?k_numbers_of ?a_done ?l_done ?c_done ?k_done ?a_handed_by ?l_handed_by ?c_handed_by ?k_handed_by ?a_handed ?l_handed ?c_handed ?k_handed ?a_handed_rest ?l_handed_rest ?c_handed_rest ?k_handed_rest ?a__law_bag ?l__law_bag ?c__law_bag ?k__law_bag ?a__law_draw ?l__law_draw ?c__law_draw ?k__law_draw ?a__law_pick ?l__law_pick ?c__law_pick ?k__law_pick ?a__law_same ?l__law_same ?c__law_same ?k__law_same ?a__law_gcd ?l__law_gcd ?c__law_gcd ?k__law_gcd ?a__law_fr ?l__law_fr ?c__law_fr ?k__law_fr ?a__law_plus ?l__law_plus ?c__law_plus ?k__law_plus ?a__law_round ?l__law_round ?c__law_round ?k__law_round ?a__law_row ?l__law_row ?c__law_row ?k__law_row ?a__law_draw_row ?l__law_draw_row ?c__law_draw_row ?k__law_draw_row ?a__law_done ?l__law_done ?c__law_done ?k__law_done ?a__law_numbers ?l__law_numbers ?c__law_numbers ?k__law_numbers ?a__law_sum ?l__law_sum ?c__law_sum ?k__law_sum ?a__law_handed ?l__law_handed ?c__law_handed ?k__law_handed ?a__law_case ?l__law_case ?c__law_case ?k__law_case ?a_law ?l_law ?c_law ?k_law ?z_abs ?z_sorted ?z_tuple ?z_range ?z_enumerate ?z_len ?z_int ?z_isinstance ?z_bool ?z_str ?z_dict ?z_list ?a_NOTHING ?l_NOTHING ?v_NOTHING ?s_NOTHING ?hC
    (case a_divisor => k_is)
    (case l_divisor => k_is)
    (case c_divisor => k_is)
    (case k_divisor => k_is)
    (case a_lowest => k_is)
    (case l_lowest => k_is)
    (case c_lowest => k_is)
    (case k_lowest => k_is)
    (case a_plus => k_is)
    (case l_plus => k_is)
    (case c_plus => k_is)
    (case k_plus => k_is)
    (case a_minus => k_is)
    (case l_minus => k_is)
    (case c_minus => k_is)
    (case k_minus => k_is)
    (case a_rounded_by => k_is)
    (case l_rounded_by => k_is)
    (case c_rounded_by => k_is)
    (case k_rounded_by => k_is)
    (case a_row_of => k_is)
    (case l_row_of => k_is)
    (case c_row_of => k_is)
    (case k_row_of => k_is)
    (case t_row_of => exact rfl)
    (case n_row_of => kernel_rfl)
    (case a_whole_row => k_is)
    (case l_whole_row => k_is)
    (case c_whole_row => k_is)
    (case k_whole_row => k_is)
    (case a_fraction_row => k_is)
    (case l_fraction_row => k_is)
    (case c_fraction_row => k_is)
    (case k_fraction_row => k_is)
    (case a_numbers_of => k_is)
    (case l_numbers_of => k_is)
    (case c_numbers_of => k_is)
    (case k_numbers_of => k_is)
    (case a_done => k_is)
    (case l_done => k_is)
    (case c_done => k_is)
    (case k_done => k_is)
    (case a_handed_by => k_is)
    (case l_handed_by => k_is)
    (case c_handed_by => k_is)
    (case k_handed_by => k_is)
    (case a_handed => k_is)
    (case l_handed => k_is)
    (case c_handed => k_is)
    (case k_handed => k_is)
    (case a_handed_rest => k_is)
    (case l_handed_rest => k_is)
    (case c_handed_rest => k_is)
    (case k_handed_rest => k_is)
    (case a__law_bag => k_is)
    (case l__law_bag => k_is)
    (case c__law_bag => k_is)
    (case k__law_bag => k_is)
    (case a__law_draw => k_is)
    (case l__law_draw => k_is)
    (case c__law_draw => k_is)
    (case k__law_draw => k_is)
    (case a__law_pick => k_is)
    (case l__law_pick => k_is)
    (case c__law_pick => k_is)
    (case k__law_pick => k_is)
    (case a__law_same => k_is)
    (case l__law_same => k_is)
    (case c__law_same => k_is)
    (case k__law_same => k_is)
    (case a__law_gcd => k_is)
    (case l__law_gcd => k_is)
    (case c__law_gcd => k_is)
    (case k__law_gcd => k_is)
    (case a__law_fr => k_is)
    (case l__law_fr => k_is)
    (case c__law_fr => k_is)
    (case k__law_fr => k_is)
    (case a__law_plus => k_is)
    (case l__law_plus => k_is)
    (case c__law_plus => k_is)
    (case k__law_plus => k_is)
    (case a__law_round => k_is)
    (case l__law_round => k_is)
    (case c__law_round => k_is)
    (case k__law_round => k_is)
    (case a__law_row => k_is)
    (case l__law_row => k_is)
    (case c__law_row => k_is)
    (case k__law_row => k_is)
    (case a__law_draw_row => k_is)
    (case l__law_draw_row => k_is)
    (case c__law_draw_row => k_is)
    (case k__law_draw_row => k_is)
    (case a__law_done => k_is)
    (case l__law_done => k_is)
    (case c__law_done => k_is)
    (case k__law_done => k_is)
    (case a__law_numbers => k_is)
    (case l__law_numbers => k_is)
    (case c__law_numbers => k_is)
    (case k__law_numbers => k_is)
    (case a__law_sum => k_is)
    (case l__law_sum => k_is)
    (case c__law_sum => k_is)
    (case k__law_sum => k_is)
    (case a__law_handed => k_is)
    (case l__law_handed => k_is)
    (case c__law_handed => k_is)
    (case k__law_handed => k_is)
    (case a__law_case => k_is)
    (case l__law_case => k_is)
    (case c__law_case => k_is)
    (case k__law_case => k_is)
    (case a_law => k_is)
    (case l_law => k_is)
    (case c_law => k_is)
    (case k_law => k_is)
    (case z_abs => k_is)
    (case z_sorted => k_is)
    (case z_tuple => k_is)
    (case z_range => k_is)
    (case z_enumerate => k_is)
    (case z_len => k_is)
    (case z_int => k_is)
    (case z_isinstance => k_is)
    (case z_bool => k_is)
    (case z_str => k_is)
    (case z_dict => k_is)
    (case z_list => k_is)
    (case a_NOTHING => k_is)
    (case l_NOTHING => k_is)
    (case v_NOTHING => exact .cons ⟨_, rfl⟩ (.cons ⟨_, rfl⟩ .nil))
    (case s_NOTHING => decide)
    case hC =>
      intro p hp
      simp only [List.mem_cons, List.not_mem_nil, or_false] at hp
      subst hp
      exact PySem.W.tab_of (x := "row_of") T KX rfl (by kernel_rfl)
