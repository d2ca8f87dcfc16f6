import Derived.Test.YtienogpnkkailaaGreatDoorEvE
import Derived.OrdersHeld
section
set_option autoImplicit false
namespace Go.Ev
variable {θ : Nat → Int} {P : Program}

/-! ### what a frame is known to hold -/
def FRel (θ : Nat → Int) (ρ : Ro) (keep : PT Unit) (tm : PT V) (a : Act) : Prop :=
  ∀ (t : Nat) (v : V), PT.get (Pos.key t) keep = some () → PT.get (Pos.key t) tm = some v → ∃ x, a.tmps[t]? = some x ∧ VRel θ ρ v x
def LRel (θ : Nat → Int) (ρ : Ro) (loc : List Nat) (env : List V) (a : Act) : Prop :=
  ∀ (t i : Nat) (v : V), locIdx t loc = some i → nth i env = some v → ∃ x, a.tmps[t]? = some x ∧ VRel θ ρ v x
theorem FRel.mono {ρ ρ' : Ro} (hr : ρ.le ρ') {keep : PT Unit} {tm : PT V} {a : Act} (h : FRel θ ρ keep tm a) : FRel θ ρ' keep tm a :=
  fun t v hk hv => let ⟨x, h1, h2⟩ := h t v hk hv; ⟨x, h1, h2.mono hr⟩
theorem LRel.mono {ρ ρ' : Ro} (hr : ρ.le ρ') {loc : List Nat} {env : List V} {a : Act} (h : LRel θ ρ loc env a) : LRel θ ρ' loc env a :=
  fun t i v hk hv => let ⟨x, h1, h2⟩ := h t i v hk hv; ⟨x, h1, h2.mono hr⟩
theorem LRel.nil (ρ : Ro) (a : Act) : LRel θ ρ [] [] a := fun _ _ _ h => by cases h
theorem trel_of {ρ : Ro} {c : Cx} {env : List V} {tm : PT V} {a : Act} (hf : FRel θ ρ c.keep tm a) (hl : LRel θ ρ c.loc env a) (t : Nat) : TRel θ ρ c env tm a t := by
  intro v hv
  unfold tmpF at hv
  cases hi : locIdx t c.loc with
  | some i => rw [hi] at hv; exact hl t i v hi hv
  | none =>
    rw [hi] at hv
    simp only at hv
    cases hk : PT.get (Pos.key t) c.keep with
    | some u => rw [hk] at hv; exact hf t v hk hv
    | none => rw [hk] at hv; cases hv

/-! ### a value is put where it goes -/
def dEnv (d : DF) (env : List V) (v : V) : List V := match d with
  | .no | .bad => env
  | _ => v :: env
noncomputable def dTm (d : DF) (tm : PT V) (v : V) : PT V := match d with
  | .per p => PT.set p (some v) tm
  | _ => tm
theorem putK_eq {d : DF} (hd : d ≠ .bad) (env : List V) (tm : PT V) (k : KR) (v : V) (h : Heap) : putK d env tm k v h = k (dEnv d env v) (dTm d tm v) h := by
  cases d <;> first
    | rfl
    | exact absurd rfl hd
theorem putK_ne {d : DF} {env : List V} {tm : PT V} {k : KR} {v : V} {h : Heap} (hb : putK d env tm k v h ≠ .bad) : d ≠ .bad := by
  rintro rfl; exact hb rfl
theorem putD_eq {d : DF} (hd : d ≠ .bad) (env : List V) (tm : PT V) (k : KD) (v : V) (h : Heap) (fs : List (Nat × Fact)) : putD d env tm k v h fs = k (dEnv d env v) (dTm d tm v) h fs := by
  cases d <;> first
    | rfl
    | exact absurd rfl hd

theorem dF_spec {c : Cx} {t : Nat} (h : dF c (some t) ≠ .bad) : t < c.nt ∧ ((dF c (some t) = .per (Pos.key t) ∧ PT.get (Pos.key t) c.keep = some ()) ∨ (dF c (some t) = .loc ∧ PT.get (Pos.key t) c.keep = none)) := by
  unfold dF at h ⊢
  simp only at h ⊢
  rw [bsel_eq] at h ⊢
  split at h
  · rename_i hlt
    rw [nblt_iff, decide_eq_true_iff] at hlt
    refine ⟨hlt, ?_⟩
    cases hk : PT.get (Pos.key t) c.keep with
    | some u => exact .inl ⟨by simp [nblt_iff, hlt], rfl⟩
    | none => exact .inr ⟨by simp [nblt_iff, hlt], rfl⟩
  · exact absurd rfl h

theorem put_size (a : Act) (d : Option Tmp) (x : Value) : (a.put d x).tmps.size = a.tmps.size := by cases d <;> simp [Act.put]
theorem put_defers (a : Act) (d : Option Tmp) (x : Value) : (a.put d x).defers = a.defers := by cases d <;> rfl
theorem put_get_ne {a : Act} {d t : Nat} {x : Value} (h : d ≠ t) : (a.put (some d) x).tmps[t]? = a.tmps[t]? := by
  simp [Act.put, Array.getElem?_setIfInBounds_ne h]
theorem put_get {a : Act} {d : Nat} {x : Value} (h : d < a.tmps.size) : (a.put (some d) x).tmps[d]? = some x := by
  simp [Act.put, h]

theorem locIdx_cons (t d : Nat) (loc : List Nat) : locIdx t (d :: loc) = if t = d then some 0 else (locIdx t loc).map (· + 1) := by
  simp only [locIdx, bsel_eq, nbeq_iff, decide_eq_true_eq]
  split
  · rfl
  · cases locIdx t loc <;> rfl

theorem put_rel {ρ : Ro} {c : Cx} {env : List V} {tm : PT V} {a : Act} {dst : Option Tmp} {v : V} {x : Value} (hd : dF c dst ≠ .bad) (hs : a.tmps.size = c.nt)
    (hf : FRel θ ρ c.keep tm a) (hl : LRel θ ρ c.loc env a) (hv : VRel θ ρ v x) :
    FRel θ ρ (dCx c dst).keep (dTm (dF c dst) tm v) (a.put dst x) ∧ LRel θ ρ (dCx c dst).loc (dEnv (dF c dst) env v) (a.put dst x) := by
  cases dst with
  | none => exact ⟨hf, hl⟩
  | some d =>
    obtain ⟨hlt, hk⟩ := dF_spec hd
    have hget : (a.put (some d) x).tmps[d]? = some x := put_get (by rw [hs]; exact hlt)
    constructor
    · intro t u hkeep hu
      change PT.get (Pos.key t) c.keep = some () at hkeep
      by_cases e : d = t
      · subst e
        rcases hk with ⟨e1, _⟩ | ⟨_, e2⟩
        · rw [e1] at hu
          simp only [dTm] at hu
          rw [PT.get_key_set, if_pos rfl] at hu
          injection hu with hu; subst hu
          exact ⟨x, hget, hv⟩
        · rw [e2] at hkeep; cases hkeep
      · rw [put_get_ne e]
        refine hf t u hkeep ?_
        rcases hk with ⟨e1, _⟩ | ⟨e1, _⟩
        · rw [e1] at hu
          simp only [dTm] at hu
          rw [PT.get_key_set, if_neg (Ne.symm e)] at hu
          exact hu
        · rw [e1] at hu; exact hu
    · intro t i u hi hu
      change locIdx t (d :: c.loc) = some i at hi
      have henv : dEnv (dF c (some d)) env v = v :: env := by rcases hk with ⟨e1, _⟩ | ⟨e1, _⟩ <;> rw [e1] <;> rfl
      rw [henv] at hu
      rw [locIdx_cons] at hi
      split at hi
      · rename_i e; subst e
        injection hi with hi; subst hi
        injection hu with hu; subst hu
        exact ⟨x, hget, hv⟩
      · rename_i e
        cases hj : locIdx t c.loc with
        | none => rw [hj] at hi; cases hi
        | some j =>
          rw [hj] at hi
          injection hi with hi; subst hi
          rw [put_get_ne (fun e' => e e'.symm)]
          exact hl t j u hj hu
end Go.Ev
end

section
set_option autoImplicit false
namespace Go.Ev
variable {θ : Nat → Int} {P : Program}

def RHas (r : RS) (tm : PT V) (h : Heap) : Prop := match r with
  | .bad => False
  | .one tm' h' => tm' = tm ∧ h' = h
  | .many l => (tm, h) ∈ l
theorem RS.toList_has {r : RS} {l : List (PT V × Heap)} (h : r.toList = some l) (tm : PT V) (g : Heap) : RHas r tm g ↔ (tm, g) ∈ l := by
  cases r with
  | bad => cases h
  | one tm' g' =>
    injection h with h; subst h
    simp only [RHas, List.mem_singleton, Prod.mk.injEq]
    exact ⟨fun ⟨a, b⟩ => ⟨a.symm, b.symm⟩, fun ⟨a, b⟩ => ⟨a.symm, b.symm⟩⟩
  | many l' => injection h with h; subst h; exact Iff.rfl
theorem RS.toList_ne {r : RS} {l : List (PT V × Heap)} (h : r.toList = some l) : r ≠ .bad := by rintro rfl; cases h

theorem rsAll_spec {k : V → Heap → RS} : ∀ {l : List (V × Heap)} {L : List (PT V × Heap)}, rsAll k l = some L → ∀ v h, (v, h) ∈ l → k v h ≠ .bad ∧ ∀ tm g, RHas (k v h) tm g → (tm, g) ∈ L
  | [], _, _, v, h, hm => by cases hm
  | x :: l, L, hL, v, h, hm => by
    simp only [rsAll] at hL
    split at hL
    · rename_i a ha
      split at hL
      · rename_i b hb
        injection hL with hL; subst hL
        rcases List.mem_cons.1 hm with e | hm
        · rw [← e] at ha
          exact ⟨RS.toList_ne ha, fun tm g hr => List.mem_append_left _ ((RS.toList_has ha tm g).1 hr)⟩
        · obtain ⟨h1, h2⟩ := rsAll_spec hb v h hm
          exact ⟨h1, fun tm g hr => List.mem_append_right _ (h2 tm g hr)⟩
      · cases hL
    · cases hL
theorem bindO_spec {o : Out} {k : V → Heap → RS} (hb : bindO o k ≠ .bad) : o ≠ .bad ∧ ∀ v h, Has o v h → k v h ≠ .bad ∧ ∀ tm g, RHas (k v h) tm g → RHas (bindO o k) tm g := by
  cases o with
  | bad => exact absurd rfl hb
  | one v h =>
    refine ⟨by simp, ?_⟩
    rintro v' h' ⟨rfl, rfl⟩
    exact ⟨hb, fun tm g hr => hr⟩
  | many l =>
    refine ⟨by simp, fun v h hm => ?_⟩
    change rsMany k l ≠ .bad at hb
    unfold rsMany at hb
    split at hb
    · rename_i L hL
      obtain ⟨h1, h2⟩ := rsAll_spec hL v h hm
      refine ⟨h1, fun tm g hr => ?_⟩
      show RHas (rsMany k l) tm g
      unfold rsMany
      rw [hL]
      exact h2 tm g hr
    · exact absurd rfl hb

/-! ### calls -/
/-- what a call comes to -/
def CallR (θ : Nat → Int) (ρ : Ro) (h : Heap) (w : World) (r : Out) : Ending → World → Prop
  | .returned x, w' => ∃ v h' ρ', Has r v h' ∧ ρ.le ρ' ∧ HRel θ ρ' h' w' ∧ VRel θ ρ' v x ∧ Fram ρ h w ρ' h' w'
  | .panicked _, _ => False
  | .outgrown, _ => False
def CallOk (θ : Nat → Int) (P : Program) (gl : Nat → Option (List V)) (call : CallF) : Prop :=
  ∀ (g : FuncId) (vs : List V) (h : Heap) (ρ : Ro) (w : World) (xs : List Value), call g vs h ≠ .bad → GOk θ gl ρ → HRel θ ρ h w → All2 (VRel θ ρ) vs xs →
    (∃ fn b, P.funcs[g]? = some fn ∧ fn.body = some b) ∧ Calls P g xs.toArray w (CallR θ ρ h w (call g vs h))

structure Env (θ : Nat → Int) (P : Program) (gl : Nat → Option (List V)) (call : CallF) : Prop where
  ext : ExtOk P
  name : NameOk P
  call : CallOk θ P gl call

variable {ρ : Ro} {h : Heap} {w : World} {c : Cx} {env : List V} {tm : PT V} {a : Act} {call : CallF}
theorem goes_wp {o : Oper} {r : Out} {K : Act → World → Prop} {Q : Exit → Act → World → Prop} (hgo : GoesN θ P ρ h w r (execOp a.eval o))
    (hK : ∀ v h' ρ' x w', Has r v h' → ρ.le ρ' → HRel θ ρ' h' w' → VRel θ ρ' v x → Fram ρ h w ρ' h' w' → K (a.put o.dst x) w') : o.wp P a w K Q := by
  obtain ⟨n, w', x, v, h', ρ', e, ev, h1, h2, h3, h4, h5⟩ := hgo
  unfold Oper.wp
  rw [e]
  rcases ev with rfl | ⟨rfl, rfl⟩
  · exact hK v h' ρ' x w' h1 h2 h3 h4 h5
  · exact hK v h' ρ' undef w' h1 h2 h3 h4 h5
theorem entered_wp (hE : Env θ P c.gl call) {o : Oper} {r : Out} {K : Act → World → Prop} {Q : Exit → Act → World → Prop} (hgo : Entered θ P ρ h w call r (execOp a.eval o)) (hr : r ≠ .bad)
    (hg : GOk θ c.gl ρ) (hh : HRel θ ρ h w)
    (hK : ∀ v h' ρ' x w', Has r v h' → ρ.le ρ' → HRel θ ρ' h' w' → VRel θ ρ' v x → Fram ρ h w ρ' h' w' → K (a.put o.dst x) w') : o.wp P a w K Q := by
  obtain ⟨g, vs, xs, rfl, t, hrun⟩ := hgo
  obtain ⟨⟨fn, b, hfn, hbd⟩, hcalls⟩ := hE.call g vs h ρ w xs hr hg hh t
  unfold Oper.wp
  rw [hrun fn b hfn hbd]
  refine Calls.mono hcalls fun e w' he => ?_
  cases e with
  | returned x =>
    obtain ⟨v, h', ρ', h1, h2, h3, h4, h5⟩ := he
    exact hK v h' ρ' x w' h1 h2 h3 h4 h5
  | panicked _ => exact he.elim
  | outgrown => exact he.elim

theorem ef_wp (hE : Env θ P c.gl call) {o : Oper} {f : OpR} {K : Act → World → Prop} {Q : Exit → Act → World → Prop} (hf : efF P c o = .mk f) (hg : GOk θ c.gl ρ) (hr : HRel θ ρ h w)
    (ht : ∀ t, Operand.tmp t ∈ o.op.operands → TRel θ ρ c env tm a t) (hb : f call env tm h ≠ .bad)
    (hK : ∀ v h' ρ' x w', Has (f call env tm h) v h' → ρ.le ρ' → HRel θ ρ' h' w' → VRel θ ρ' v x → Fram ρ h w ρ' h' w' → K (a.put o.dst x) w') : o.wp P a w K Q := by
  rcases ef_sound hE.name hf hg hr ht hb with hgo | hgo
  · exact goes_wp hgo hK
  · exact entered_wp hE hgo hb hg hr hK
theorem tk_wp (hE : Env θ P c.gl call) {o : Oper} {f : TkR} {v : V} {K : Act → World → Prop} {Q : Exit → Act → World → Prop} (hf : tkF P c o = .mk f) (hg : GOk θ c.gl ρ) (hr : HRel θ ρ h w)
    (ht : ∀ t, Operand.tmp t ∈ o.op.operands → TRel θ ρ c env tm a t) (hv : f env tm h = some v)
    (hK : ∀ x, VRel θ ρ v x → K (a.put o.dst x) w) : o.wp P a w K Q := by
  obtain ⟨x, e, hx⟩ := tk_sound hE.ext hf hg hr ht hv
  unfold Oper.wp
  rw [e]
  exact hK x hx
theorem op_wp (hE : Env θ P c.gl call) {o : Oper} {f : OpR} {K : Act → World → Prop} {Q : Exit → Act → World → Prop} (hf : opF P c o = .mk f) (hg : GOk θ c.gl ρ) (hr : HRel θ ρ h w)
    (ht : ∀ t, Operand.tmp t ∈ o.op.operands → TRel θ ρ c env tm a t) (hb : f call env tm h ≠ .bad)
    (hK : ∀ v h' ρ' x w', Has (f call env tm h) v h' → ρ.le ρ' → HRel θ ρ' h' w' → VRel θ ρ' v x → Fram ρ h w ρ' h' w' → K (a.put o.dst x) w') : o.wp P a w K Q := by
  have tk : ∀ {g : TkR} {v : V}, tkF P c o = .mk g → g env tm h = some v → f call env tm h = .one v h → o.wp P a w K Q := by
    intro g v hg' hv e
    exact tk_wp hE hg' hg hr ht hv fun x hx => hK v h ρ x w (by rw [e]; exact ⟨rfl, rfl⟩) (Ro.le_refl _) hr hx (Fram.refl _ _ _)
  have out : ∀ {g : TkR}, tkF P c o = .mk g → f = (fun _ env tm h => out1 h (g env tm h)) → o.wp P a w K Q := by
    intro g hg' e
    subst e
    cases hv : g env tm h with
    | none => exact absurd (by show out1 h (g env tm h) = .bad; rw [hv]; rfl) hb
    | some v => exact tk hg' hv (by show out1 h (g env tm h) = _; rw [hv]; rfl)
  unfold opF at hf
  split at hf
  · rename_i g hg'
    rw [bsel_eq] at hf
    split at hf
    · split at hf
      · rename_i g2 hg2
        injection hf with hf; subst hf
        cases hv : g env tm h with
        | none =>
          simp only [hv] at hb hK
          exact ef_wp hE hg2 hg hr ht hb hK
        | some v => exact tk hg' hv (by simp only [hv])
      · injection hf with hf; exact out hg' hf.symm
    · injection hf with hf; exact out hg' hf.symm
  · exact ef_wp hE hf hg hr ht hb hK

/-! ### guards -/
theorem guardK_mk (x : OF) (want : Bool) (env : List V) (tm : PT V) (yes no : RS) : guardK (.mk x want) env tm yes no = (match ev x env tm with
    | none => .bad
    | some v => guardB want yes no v) := by
  show (Option.rec (motive := fun _ => RS) .bad (guardB want yes no) (ev x env tm) : RS) = _
  cases ev x env tm <;> rfl
theorem guard_spec {ops : Array Oper} {o : Oper} {env : List V} {tm : PT V} {yes no : RS} (ht : ∀ t, TRel θ ρ c env tm a t) (hb : guardK (gF c ops o) env tm yes no ≠ .bad) :
    (Region.wanted o (yielded ops a.tmps) = true ∧ guardK (gF c ops o) env tm yes no = yes) ∨ (Region.wanted o (yielded ops a.tmps) = false ∧ guardK (gF c ops o) env tm yes no = no) := by
  unfold gF at hb ⊢
  cases hgd : o.guard with
  | none =>
    rw [hgd] at hb
    exact .inl ⟨by simp [Region.wanted, hgd], rfl⟩
  | some gw =>
    obtain ⟨j, want⟩ := gw
    rw [hgd] at hb
    simp only at hb ⊢
    cases hd : (ops[j]?).bind (·.dst) with
    | none => rw [hd] at hb; exact absurd rfl hb
    | some d =>
      rw [hd] at hb
      simp only at hb ⊢
      cases hv : ev (tmpF c d) env tm with
      | none =>
        exact absurd (by rw [guardK_mk, hv]) hb
      | some v =>
        have hk : guardK (.mk (tmpF c d) want) env tm yes no = guardB want yes no v := by rw [guardK_mk, hv]
        rw [hk]
        obtain ⟨x, hx, hrel⟩ := ht d v hv
        have hw : Region.wanted o (yielded ops a.tmps) = ((match x with | .bool b => some b | _ => none) == some want) := by
          simp only [Region.wanted, hgd, yielded, hd, Option.bind_some, hx]
          cases x <;> rfl
        rw [hw]
        by_cases hbo : ∃ b, v = .bool b
        · obtain ⟨b, rfl⟩ := hbo
          obtain rfl := vrel_bool hrel
          cases b <;> cases want
          · exact .inl ⟨rfl, rfl⟩
          · exact .inr ⟨rfl, rfl⟩
          · exact .inr ⟨rfl, rfl⟩
          · exact .inl ⟨rfl, rfl⟩
        · refine .inr ⟨?_, ?_⟩
          · have : ∀ b, x ≠ .bool b := by
              intro b e; subst e
              cases v <;> simp only [VRel, ARel, CRel, PRel, reduceCtorEq, false_and, and_false, exists_false] at hrel <;> first
                | exact hrel.elim
                | (injection hrel with hrel; subst hrel; exact hbo ⟨_, rfl⟩)
                | (obtain ⟨_, h⟩ := hrel; simp at h; done)
            cases x <;> first
              | rfl
              | exact absurd rfl (this _)
          · cases v <;> first
              | rfl
              | exact absurd ⟨_, rfl⟩ hbo

/-! ### a region in its order -/
theorem runOps_cons (call : CallF) (g : GF) (d : DF) (f : OpF) (rest : OpsF) (env : List V) (tm : PT V) (h : Heap) :
    runOps call (.cons g d f rest) env tm h = guardK g env tm (runOp call d f env tm h (runOps call rest)) (putK d env tm (runOps call rest) undefA h) := rfl

theorem runOps_ok (hE : Env θ P c.gl call) {ops : Array Oper} {Q : Exit → Act → World → Prop} : ∀ (l : List Oper) (i : Nat) (c' : Cx) (env : List V) (tm : PT V) (h : Heap) (ρ : Ro) (a : Act) (w : World),
    ops.toList.drop i = l → c'.gl = c.gl → c'.keep = c.keep → c'.nt = c.nt → GOk θ c.gl ρ → HRel θ ρ h w → FRel θ ρ c'.keep tm a → LRel θ ρ c'.loc env a → a.tmps.size = c'.nt →
    runOps call (opsF P ops c' l) env tm h ≠ .bad →
    (∀ tm' h' ρ' a' w', RHas (runOps call (opsF P ops c' l) env tm h) tm' h' → ρ.le ρ' → HRel θ ρ' h' w' → FRel θ ρ' c.keep tm' a' → a'.tmps.size = c.nt → a'.defers = a.defers → Fram ρ h w ρ' h' w' → Q .normal a' w') →
    wpOps P ops Q (List.range' i l.length) a w
  | [], i, c', env, tm, h, ρ, a, w, _, _, hk, hn, hg, hr, hf, _, hs, _, hq => by
    refine hq tm h ρ a w ⟨rfl, rfl⟩ (Ro.le_refl _) hr (hk ▸ hf) (hn ▸ hs) rfl (Fram.refl _ _ _)
  | o :: l, i, c', env, tm, h, ρ, a, w, hi, hng, hk, hn, hg, hr, hf, hl, hs, hb, hq => by
    have hio : ops[i]? = some o := by
      have : (ops.toList.drop i)[0]? = some o := by rw [hi]; rfl
      rw [List.getElem?_drop] at this
      simpa using this
    have hi' : ops.toList.drop (i + 1) = l := by
      rw [← List.drop_drop, hi]; rfl
    rw [List.length_cons, List.range'_succ, wpOps_cons]
    unfold wpOp
    rw [hio]
    simp only
    rw [opsF, runOps_cons] at hb hq
    have next : ∀ (v : V) (h' : Heap) (ρ' : Ro) (x : Value) (w' : World), ρ.le ρ' → HRel θ ρ' h' w' → VRel θ ρ' v x → Fram ρ h w ρ' h' w' →
        putK (dF c' o.dst) env tm (runOps call (opsF P ops (dCx c' o.dst) l)) v h' ≠ .bad →
        (∀ tm' g, RHas (putK (dF c' o.dst) env tm (runOps call (opsF P ops (dCx c' o.dst) l)) v h') tm' g → RHas (guardK (gF c' ops o) env tm (runOp call (dF c' o.dst) (opF P c' o) env tm h (runOps call (opsF P ops (dCx c' o.dst) l))) (putK (dF c' o.dst) env tm (runOps call (opsF P ops (dCx c' o.dst) l)) undefA h)) tm' g) →
        wpOps P ops Q (List.range' (i + 1) l.length) (a.put o.dst x) w' := by
      intro v h' ρ' x w' hle hr' hv hfr hne hsub
      have hd := putK_ne hne
      rw [putK_eq hd] at hne
      obtain ⟨hf2, hl2⟩ := put_rel hd hs (hf.mono hle) (hl.mono hle) hv
      have hcx : (dCx c' o.dst).gl = c.gl ∧ (dCx c' o.dst).keep = c.keep ∧ (dCx c' o.dst).nt = c.nt := by
        cases o.dst <;> exact ⟨hng, hk, hn⟩
      refine runOps_ok hE l (i + 1) (dCx c' o.dst) _ _ h' ρ' (a.put o.dst x) w' hi' hcx.1 hcx.2.1 hcx.2.2 (hg.mono hle) hr' hf2 hl2 (by rw [put_size, hs, hcx.2.2, hn]) hne ?_
      intro tm' g ρ2 a2 w2 hh q1 q2 q3 q4 q5 q6
      exact hq tm' g ρ2 a2 w2 (hsub tm' g (by rw [putK_eq hd]; exact hh)) (Ro.le_trans hle q1) q2 q3 q4 (by rw [q5, put_defers]) (hfr.trans q6)
    rcases guard_spec (fun t => trel_of hf hl t) hb with ⟨hwant, e⟩ | ⟨hwant, e⟩
    · rw [if_pos hwant]
      refine .inl ?_
      rw [e] at hb next
      cases hof : opF P c' o with
      | bad => rw [hof] at hb; exact absurd rfl hb
      | mk f =>
        rw [hof] at hb next
        change bindO (f call env tm h) _ ≠ .bad at hb
        obtain ⟨hne, hall⟩ := bindO_spec hb
        refine op_wp (hng ▸ hE) hof (hng ▸ hg) hr (fun t _ => trel_of hf hl t) hne ?_
        intro v h' ρ' x w' hhas hle hr' hv hfr
        obtain ⟨k1, k2⟩ := hall v h' hhas
        exact next v h' ρ' x w' hle hr' hv hfr k1 k2
    · rw [if_neg (by rw [hwant]; exact Bool.false_ne_true)]
      rw [e] at hb next
      exact next undefA h ρ undef w (Ro.le_refl _) hr (undef_rel _) (Fram.refl _ _ _) hb fun _ _ hh => hh
end Go.Ev
end

section
set_option autoImplicit false
namespace Go.Ev
variable {θ : Nat → Int} {P : Program}

def ResHas (r : Res) (e : Ex) (tm : PT V) (h : Heap) : Prop := match r with
  | .bad => False
  | .norm tm' h' => e = .normal ∧ tm' = tm ∧ h' = h
  | .exit id tm' h' => e = .exit id ∧ tm' = tm ∧ h' = h
  | .ret tm' h' => e = .ret ∧ tm' = tm ∧ h' = h
  | .many l => (e, tm, h) ∈ l
def exOf : Ex → Exit
  | .normal => .normal
  | .exit id => .exit id
  | .ret => .ret

theorem Res.toList_has {r : Res} {l : List (Ex × PT V × Heap)} (h : r.toList = some l) (e : Ex) (tm : PT V) (g : Heap) : ResHas r e tm g ↔ (e, tm, g) ∈ l := by
  cases r <;> first
    | (cases h; done)
    | (injection h with h; subst h; exact Iff.rfl)
    | (injection h with h; subst h
       simp only [ResHas, List.mem_singleton, Prod.mk.injEq]
       constructor
       · rintro ⟨rfl, rfl, rfl⟩; exact ⟨rfl, rfl, rfl⟩
       · rintro ⟨rfl, rfl, rfl⟩; exact ⟨rfl, rfl, rfl⟩)
theorem Res.toList_ne {r : Res} {l : List (Ex × PT V × Heap)} (h : r.toList = some l) : r ≠ .bad := by rintro rfl; cases h

theorem resAll_spec {k : Ex → PT V → Heap → Res} : ∀ {l L : List (Ex × PT V × Heap)}, resAll k l = some L → ∀ e tm h, (e, tm, h) ∈ l → k e tm h ≠ .bad ∧ ∀ e' tm' g, ResHas (k e tm h) e' tm' g → (e', tm', g) ∈ L
  | [], _, _, e, tm, h, hm => by cases hm
  | x :: l, L, hL, e, tm, h, hm => by
    simp only [resAll] at hL
    split at hL
    · rename_i a ha
      split at hL
      · rename_i b hb
        injection hL with hL; subst hL
        rcases List.mem_cons.1 hm with eq | hm
        · rw [← eq] at ha
          exact ⟨Res.toList_ne ha, fun e' tm' g hr => List.mem_append_left _ ((Res.toList_has ha e' tm' g).1 hr)⟩
        · obtain ⟨h1, h2⟩ := resAll_spec hb e tm h hm
          exact ⟨h1, fun e' tm' g hr => List.mem_append_right _ (h2 e' tm' g hr)⟩
      · cases hL
    · cases hL
noncomputable def bindRes (r : Res) (k : Ex → PT V → Heap → Res) : Res :=
  Res.rec .bad (k .normal) (fun id => k (.exit id)) (k .ret) (resMany k) r
theorem bindRes_spec {r : Res} {k : Ex → PT V → Heap → Res} (hb : bindRes r k ≠ .bad) : r ≠ .bad ∧ ∀ e tm h, ResHas r e tm h → k e tm h ≠ .bad ∧ ∀ e' tm' g, ResHas (k e tm h) e' tm' g → ResHas (bindRes r k) e' tm' g := by
  cases r with
  | bad => exact absurd rfl hb
  | norm tm h =>
    refine ⟨by simp, ?_⟩
    rintro e tm' h' ⟨rfl, rfl, rfl⟩
    exact ⟨hb, fun _ _ _ hr => hr⟩
  | exit id tm h =>
    refine ⟨by simp, ?_⟩
    rintro e tm' h' ⟨rfl, rfl, rfl⟩
    exact ⟨hb, fun _ _ _ hr => hr⟩
  | ret tm h =>
    refine ⟨by simp, ?_⟩
    rintro e tm' h' ⟨rfl, rfl, rfl⟩
    exact ⟨hb, fun _ _ _ hr => hr⟩
  | many l =>
    refine ⟨by simp, fun e tm h hm => ?_⟩
    change resMany k l ≠ .bad at hb
    unfold resMany at hb
    split at hb
    · rename_i L hL
      obtain ⟨h1, h2⟩ := resAll_spec hL e tm h hm
      refine ⟨h1, fun e' tm' g hr => ?_⟩
      show ResHas (resMany k l) e' tm' g
      unfold resMany
      rw [hL]
      exact h2 e' tm' g hr
    · exact absurd rfl hb
theorem exSeq_eq (x y : KC) (call : CallF) (tm : PT V) (h : Heap) : exSeq x y call tm h = bindRes (x call tm h) (seqK (y call)) := by
  unfold exSeq bindRes
  cases x call tm h <;> rfl
theorem exBlock_eq (id : Nat) (x : KC) (call : CallF) (tm : PT V) (h : Heap) : exBlock id x call tm h = bindRes (x call tm h) (blockK id) := by
  unfold exBlock bindRes
  cases x call tm h <;> rfl
theorem iter_succ (f : PT V → Heap → Res) (n : Nat) (tm : PT V) (h : Heap) : iter f (n + 1) tm h = bindRes (f tm h) (seqK (iter f n)) := by
  have : iter f (n + 1) tm h = Res.rec (motive := fun _ => Res) .bad (iter f n) .exit .ret (resMany (seqK (iter f n))) (f tm h) := rfl
  rw [this]
  unfold bindRes
  cases f tm h <;> rfl

/-- a loop that comes to its end within so many rounds -/
theorem wp_loop_fuel {Q : Exit → Act → World → Prop} {c : Code} (I : Nat → Act → World → Prop) (h0 : ∀ a w, ¬ I 0 a w)
    (round : ∀ n a w, I (n + 1) a w → c.wp P (Exit.then (I n) Q) a w) (n : Nat) {a : Act} {w : World} (hn : I n a w) : (Code.loop c).wp P Q a w := by
  intro b k cs
  have key : ∀ n a w, I n a w → ∃ e a' w', Q e a' w' ∧ Arrives P (lone (b.at a (.code c :: .inLoop c :: k)) cs w) b k cs e a' w' := by
    intro n
    induction n with
    | zero => intro a w hI; exact absurd hI (h0 a w)
    | succ n ih =>
      intro a w hI
      obtain ⟨e, a₁, w₁, hq, harr⟩ := round n a w hI b (.inLoop c :: k) cs
      cases e with
      | normal =>
        obtain ⟨e₂, a₂, w₂, hq₂, harr₂⟩ := ih a₁ w₁ hq
        exact ⟨e₂, a₂, w₂, hq₂, .of_steps (Steps.trans harr (.one step_inLoop)) harr₂⟩
      | exit id => exact ⟨_, a₁, w₁, hq, .pass (x := .inLoop c) rfl (fun _ _ => .inl (by simp)) harr⟩
      | goto l => exact ⟨_, a₁, w₁, hq, .pass (x := .inLoop c) rfl (fun _ _ => .inl (by simp)) harr⟩
      | ret => exact ⟨_, a₁, w₁, hq, .pass (x := .inLoop c) rfl (fun _ _ => .inl (by simp)) harr⟩
      | panic ch => exact ⟨_, a₁, w₁, hq, .pass (x := .inLoop c) rfl (fun _ _ => .inl (by simp)) harr⟩
      | outgrown => exact ⟨_, a₁, w₁, hq, .pass (x := .inLoop c) rfl (fun _ _ => .inl (by simp)) harr⟩
  obtain ⟨e, a', w', hq, harr⟩ := key n a w hn
  exact ⟨e, a', w', hq, .of_steps (.one step_loop) harr⟩

/-- what holds behind a piece of code -/
structure After (θ : Nat → Int) (c : Cx) (ρ : Ro) (h : Heap) (w : World) (a : Act) (tm' : PT V) (h' : Heap) (ρ' : Ro) (a' : Act) (w' : World) : Prop where
  le : ρ.le ρ'
  heap : HRel θ ρ' h' w'
  frame : FRel θ ρ' c.keep tm' a'
  size : a'.tmps.size = c.nt
  defers : a'.defers = a.defers
  fram : Fram ρ h w ρ' h' w'
theorem After.trans {c : Cx} {ρ ρ1 ρ2 : Ro} {h h1 h2 : Heap} {w w1 w2 : World} {a a1 a2 : Act} {tm1 tm2 : PT V} (x : After θ c ρ h w a tm1 h1 ρ1 a1 w1) (y : After θ c ρ1 h1 w1 a1 tm2 h2 ρ2 a2 w2) : After θ c ρ h w a tm2 h2 ρ2 a2 w2 :=
  ⟨Ro.le_trans x.le y.le, y.heap, y.frame, y.size, y.defers.trans x.defers, x.fram.trans y.fram⟩
def CodeOk (θ : Nat → Int) (P : Program) (c : Cx) (call : CallF) (x : KC) (code : Code) : Prop :=
  ∀ (tm : PT V) (h : Heap) (ρ : Ro) (a : Act) (w : World) (Q : Exit → Act → World → Prop), GOk θ c.gl ρ → HRel θ ρ h w → FRel θ ρ c.keep tm a → a.tmps.size = c.nt → x call tm h ≠ .bad →
    (∀ e tm' h' ρ' a' w', ResHas (x call tm h) e tm' h' → After θ c ρ h w a tm' h' ρ' a' w' → Q (exOf e) a' w') → code.wp P Q a w


theorem seq_ok {c : Cx} {call : CallF} {x y : KC} {cx cy : Code} (hx : CodeOk θ P c call x cx) (hy : CodeOk θ P c call y cy) : CodeOk θ P c call (exSeq x y) (.seq cx cy) := by
  intro tm h ρ a w Q hg hr hf hs hb hq
  rw [exSeq_eq] at hb hq
  obtain ⟨h1, h2⟩ := bindRes_spec hb
  refine wp_seq (hx tm h ρ a w _ hg hr hf hs h1 fun e tm1 g1 ρ1 a1 w1 hh af => ?_)
  obtain ⟨k1, k2⟩ := h2 e tm1 g1 hh
  cases e with
  | normal =>
    exact hy tm1 g1 ρ1 a1 w1 Q (hg.mono af.le) af.heap af.frame af.size k1 fun e2 tm2 g2 ρ2 a2 w2 hh2 af2 => hq e2 tm2 g2 ρ2 a2 w2 (k2 _ _ _ hh2) (af.trans af2)
  | exit id => exact hq _ tm1 g1 ρ1 a1 w1 (k2 _ _ _ ⟨rfl, rfl, rfl⟩) af
  | ret => exact hq _ tm1 g1 ρ1 a1 w1 (k2 _ _ _ ⟨rfl, rfl, rfl⟩) af
theorem block_ok {c : Cx} {call : CallF} {id : Nat} {x : KC} {cx : Code} (hx : CodeOk θ P c call x cx) : CodeOk θ P c call (exBlock id x) (.block id cx) := by
  intro tm h ρ a w Q hg hr hf hs hb hq
  rw [exBlock_eq] at hb hq
  obtain ⟨h1, h2⟩ := bindRes_spec hb
  refine wp_block (hx tm h ρ a w _ hg hr hf hs h1 fun e tm1 g1 ρ1 a1 w1 hh af => ?_)
  obtain ⟨k1, k2⟩ := h2 e tm1 g1 hh
  cases e with
  | normal => exact hq _ tm1 g1 ρ1 a1 w1 (k2 _ _ _ ⟨rfl, rfl, rfl⟩) af
  | exit j =>
    show if j = id then _ else _
    by_cases e : j = id
    · rw [if_pos e]
      refine hq .normal tm1 g1 ρ1 a1 w1 (k2 _ _ _ ?_) af
      simp [blockK, blockE, e, ResHas]
    · rw [if_neg e]
      refine hq (.exit j) tm1 g1 ρ1 a1 w1 (k2 _ _ _ ?_) af
      simp [blockK, blockE, nbeq_iff, e, ResHas]
  | ret => exact hq _ tm1 g1 ρ1 a1 w1 (k2 _ _ _ ⟨rfl, rfl, rfl⟩) af
theorem loop_ok {c : Cx} {call : CallF} {x : KC} {cx : Code} (hx : CodeOk θ P c call x cx) : CodeOk θ P c call (exLoop x) (.loop cx) := by
  intro tm h ρ a w Q hg hr hf hs hb hq
  refine wp_loop_fuel (I := fun n a1 w1 => ∃ tm1 h1 ρ1, After θ c ρ h w a tm1 h1 ρ1 a1 w1 ∧ iter (x call) n tm1 h1 ≠ .bad ∧ ∀ e tm' g, ResHas (iter (x call) n tm1 h1) e tm' g → ResHas (exLoop x call tm h) e tm' g) ?_ ?_ 100000
    ⟨tm, h, ρ, ⟨Ro.le_refl _, hr, hf, hs, rfl, Fram.refl _ _ _⟩, hb, fun _ _ _ hh => hh⟩
  · rintro a1 w1 ⟨tm1, h1, ρ1, _, hb1, _⟩
    exact hb1 rfl
  · rintro n a1 w1 ⟨tm1, h1, ρ1, af, hb1, hin⟩
    rw [iter_succ] at hb1 hin
    obtain ⟨k1, k2⟩ := bindRes_spec hb1
    refine hx tm1 h1 ρ1 a1 w1 _ (hg.mono af.le) af.heap af.frame af.size k1 fun e tm2 g2 ρ2 a2 w2 hh af2 => ?_
    obtain ⟨m1, m2⟩ := k2 e tm2 g2 hh
    cases e with
    | normal => exact ⟨tm2, g2, ρ2, af.trans af2, m1, fun e' tm' g hh' => hin _ _ _ (m2 _ _ _ hh')⟩
    | exit id => exact hq _ tm2 g2 ρ2 a2 w2 (hin _ _ _ (m2 _ _ _ ⟨rfl, rfl, rfl⟩)) (af.trans af2)
    | ret => exact hq _ tm2 g2 ρ2 a2 w2 (hin _ _ _ (m2 _ _ _ ⟨rfl, rfl, rfl⟩)) (af.trans af2)
theorem cond_ok {c : Cx} {call : CallF} {x : KC} {y : KC} {o : Operand} {cx cy : Code} (hc : c.loc = []) (hx : CodeOk θ P c call x cx) (hy : CodeOk θ P c call y cy) : CodeOk θ P c call (exCond (opd c o) x y) (.cond o cx cy) := by
  intro tm h ρ a w Q hg hr hf hs hb hq
  have he : exCond (opd c o) x y call tm h = (match ev (opd c o) [] tm with
      | none => .bad
      | some v => condV (x call tm h) (y call tm h) v) := by
    show (Option.rec (motive := fun _ => Res) .bad (condV (x call tm h) (y call tm h)) (ev (opd c o) [] tm) : Res) = _
    cases ev (opd c o) [] tm <;> rfl
  rw [he] at hb hq
  cases hv : ev (opd c o) [] tm with
  | none => rw [hv] at hb; exact absurd rfl hb
  | some v =>
    rw [hv] at hb hq
    simp only at hb hq
    have hl : LRel θ ρ c.loc [] a := by rw [hc]; exact LRel.nil _ _
    have hrel := opd_sound hg (fun t _ => trel_of hf hl t) hv
    unfold condV at hb hq
    split at hb
    · rename_i t
      have e := vrel_bool hrel
      cases t
      · exact wp_cond_false e (hy tm h ρ a w Q hg hr hf hs hb hq)
      · exact wp_cond_true e (hx tm h ρ a w Q hg hr hf hs hb hq)
    · exact absurd rfl hb

theorem code_ok {c : Cx} {call : CallF} (hE : Env θ P c.gl call) (hc : c.loc = []) {pl : Nat → List (Nat × Nat)} (hD : ∀ id ops, chkDr ops (pl id) = true → CodeOk θ P c call (exDraw (drF P ops c [] (pl id))) (.region id ops true)) :
    ∀ code : Code, CodeOk θ P c call (exec (cF P pl c code)) code := by
  intro code
  induction code with
  | skip =>
    intro tm h ρ a w Q hg hr hf hs hb hq
    exact wp_skip (hq .normal tm h ρ a w ⟨rfl, rfl, rfl⟩ ⟨Ro.le_refl _, hr, hf, hs, rfl, Fram.refl _ _ _⟩)
  | region id ops d =>
    cases d with
    | true =>
      cases hchk : chkDr ops (pl id) with
      | true =>
        have e : cF P pl c (.region id ops true) = .draw (drF P ops c [] (pl id)) := by
          show bsel (chkDr ops (pl id)) _ _ = _
          rw [hchk]; rfl
        rw [e]
        exact hD id ops hchk
      | false =>
        intro tm h ρ a w Q hg hr hf hs hb hq
        have e : cF P pl c (.region id ops true) = .bad := by
          show bsel (chkDr ops (pl id)) _ _ = _
          rw [hchk]; rfl
        rw [e] at hb
        exact absurd rfl hb
    | false =>
      intro tm h ρ a w Q hg hr hf hs hb hq
      have e : exec (cF P pl c (.region id ops false)) call tm h = rsRes (runOps call (opsF P ops c ops.toList) [] tm h) := rfl
      rw [e] at hb hq
      have hne : runOps call (opsF P ops c ops.toList) [] tm h ≠ .bad := by
        intro e2; rw [e2] at hb; exact hb rfl
      have hl : LRel θ ρ c.loc [] a := by rw [hc]; exact LRel.nil _ _
      refine wp_region ?_
      rw [List.range_eq_range', show ops.size = ops.toList.length from Array.length_toList.symm]
      refine runOps_ok hE ops.toList 0 c [] tm h ρ a w rfl rfl rfl rfl hg hr hf hl hs hne ?_
      intro tm' h' ρ' a' w' hh q1 q2 q3 q4 q5 q6
      refine hq .normal tm' h' ρ' a' w' ?_ ⟨q1, q2, q3, q4, q5, q6⟩
      revert hh
      cases runOps call (opsF P ops c ops.toList) [] tm h with
      | bad => exact False.elim
      | one tm2 h2 => exact fun ⟨e1, e2⟩ => ⟨rfl, e1, e2⟩
      | many l => exact fun hm => List.mem_map.2 ⟨_, hm, rfl⟩
  | seq x y ihx ihy => exact seq_ok ihx ihy
  | cond o x y ihx ihy => exact cond_ok hc ihx ihy
  | block id x ih => exact block_ok ih
  | loop x ih => exact loop_ok ih
  | exit id =>
    intro tm h ρ a w Q hg hr hf hs hb hq
    exact wp_exit (hq (.exit id) tm h ρ a w ⟨rfl, rfl, rfl⟩ ⟨Ro.le_refl _, hr, hf, hs, rfl, Fram.refl _ _ _⟩)
  | ret =>
    intro tm h ρ a w Q hg hr hf hs hb hq
    exact wp_ret (hq .ret tm h ρ a w ⟨rfl, rfl, rfl⟩ ⟨Ro.le_refl _, hr, hf, hs, rfl, Fram.refl _ _ _⟩)
  | _ => intro tm h ρ a w Q hg hr hf hs hb hq; exact absurd rfl hb
end Go.Ev
end

section
set_option autoImplicit false
namespace Go.Ev
variable {θ : Nat → Int} {P : Program}

/-! ### what a function hands back -/
theorem resA_ok {c : Cx} (hc : c.loc = []) {ρ : Ro} {h : Heap} {w : World} {tm : PT V} {a : Act} {r : ResultVar} {v : V} (hf : FRel θ ρ c.keep tm a) (hr : HRel θ ρ h w) (hv : resA h tm (rF P c r) = some v) :
    ∃ x, (match r with
      | .tmp t => pure (a.tmps.getD t undef)
      | .cell ad t => do loadVar t (← asAddr (a.tmps.getD ad undef)) : Sem Value).run P w = .ok x w ∧ VRel θ ρ v x := by
  have hl : LRel θ ρ c.loc [] a := by rw [hc]; exact LRel.nil _ _
  have rd : ∀ {t : Nat} {u : V}, ev (tmpF c t) [] tm = some u → VRel θ ρ u (a.tmps.getD t undef) := by
    intro t u hu
    obtain ⟨x, h1, h2⟩ := trel_of hf hl t u hu
    rw [Array.getD_eq_getD_getElem?, h1]; exact h2
  have ptr : ∀ {x : Value} {u v : V} {F : Heap → V → Option V}, (∀ h u, F h u = some v → (∃ b o, u = .ptr b o) ∨ ∃ l, u = .fp l) → VRel θ ρ u x → F h u = some v → (asAddr x).run P w = (Instr.sureAddr x).run P w := by
    intro x u v F hF hu hv
    rcases hF h u hv with ⟨b, o, rfl⟩ | ⟨l, rfl⟩
    · obtain ⟨p, hp, rfl⟩ := vrel_ptr hu
      rfl
    · obtain ⟨q, o, c, rfl, _⟩ := crel_fp hu
      rfl
  cases r with
  | tmp t => exact ⟨_, rfl, rd hv⟩
  | cell ad t =>
    simp only [rF] at hv
    split at hv
    · rename_i hag
      split at hv
      · rename_i n hn
        simp only [resA] at hv
        split at hv
        · rename_i p hp
          have hrel := rd hp
          obtain ⟨x, e, hx⟩ := run_loadAgg hag hn hr hrel hv
          refine ⟨x, ?_, hx⟩
          rw [← e]
          have e2 := ptr (F := loadAgg n) (fun h u hu => by unfold loadAgg at hu; split at hu; exact .inl ⟨_, _, rfl⟩; exact .inr ⟨_, rfl⟩; cases hu) hrel hv
          simp only [Sem.run_bind, e2, Instr.loadAt]
        · cases hv
      · simp only [resA] at hv; cases hv
    · rename_i hag
      simp only [resA] at hv
      split at hv
      · rename_i p hp
        have hrel := rd hp
        obtain ⟨x, e, hx⟩ := run_loadOne hag hr hrel hv
        refine ⟨x, ?_, hx⟩
        rw [← e]
        have e2 := ptr (F := loadOne) (fun h u hu => by unfold loadOne at hu; split at hu; exact .inl ⟨_, _, rfl⟩; exact .inr ⟨_, rfl⟩; cases hu) hrel hv
        simp only [Sem.run_bind, e2, Instr.loadAt]
      · cases hv
    · simp only [resA] at hv; cases hv

theorem resAs_ok {c : Cx} (hc : c.loc = []) {ρ : Ro} {h : Heap} {w : World} {tm : PT V} {a : Act} (hf : FRel θ ρ c.keep tm a) (hr : HRel θ ρ h w) : ∀ {l : List ResultVar} {vs : List V}, optAll (resA h tm) (l.map (rF P c)) = some vs →
    ∃ xs, (l.mapM (fun r => (match r with
      | .tmp t => pure (a.tmps.getD t undef)
      | .cell ad t => do loadVar t (← asAddr (a.tmps.getD ad undef)) : Sem Value))).run P w = .ok xs w ∧ All2 (VRel θ ρ) vs xs
  | [], vs, h => by
    injection h with h; subst h
    exact ⟨[], rfl, .nil⟩
  | r :: l, vs, h => by
    simp only [List.map_cons, optAll] at h
    split at h
    · rename_i v hv
      split at h
      · rename_i vs' hvs
        injection h with h; subst h
        obtain ⟨x, e1, h1⟩ := resA_ok hc hf hr hv
        obtain ⟨xs, e2, h2⟩ := resAs_ok hc hf hr hvs
        refine ⟨x :: xs, ?_, .cons h1 h2⟩
        rw [List.mapM_cons]
        simp only [Sem.run_bind] at e1 e2 ⊢
        rw [e1]
        simp only [Result.andThen_ok]
        rw [e2]
        rfl
      · cases h
    · cases h
theorem notTups {ρ : Ro} : ∀ {vs : List V} {xs : List Value}, vs.any isTup = false → All2 (VRel θ ρ) vs xs → All2 (ARel θ ρ) vs xs
  | [], _, _, t => by cases t; exact .nil
  | v :: vs, _, h, t => by
    cases t with
    | cons hv t =>
      rw [List.any_cons, Bool.or_eq_false_iff] at h
      exact .cons (notTup h.1 hv) (notTups h.2 t)
theorem optAll_len {α β : Type} {f : α → Option β} : ∀ {l : List α} {m : List β}, optAll f l = some m → m.length = l.length
  | [], m, h => by injection h with h; subst h; rfl
  | x :: l, m, h => by
    simp only [optAll] at h
    split at h
    · split at h
      · rename_i ys hys
        injection h with h; subst h
        simp [optAll_len hys]
      · cases h
    · cases h
theorem results_ok {c : Cx} (hc : c.loc = []) {ρ : Ro} {h : Heap} {w : World} {tm : PT V} {a : Act} {fn : Func} {v : V} (hf : FRel θ ρ c.keep tm a) (hr : HRel θ ρ h w) (hv : resultsA (rFs P c fn.results.toList) tm h = some v) :
    ∃ x, (results fn a.tmps).run P w = .ok x w ∧ VRel θ ρ v x := by
  have run : ∀ xs : List Value, (fn.results.toList.mapM (fun r => (match r with
      | .tmp t => pure (a.tmps.getD t undef)
      | .cell ad t => do loadVar t (← asAddr (a.tmps.getD ad undef)) : Sem Value))).run P w = .ok xs w → (results fn a.tmps).run P w = .ok (if h : xs.toArray.size = 1 then xs.toArray[0] else .tuple xs.toArray) w := by
    intro xs hx
    unfold results
    rw [Array.mapM_eq_mapM_toList]
    simp only [Sem.run_bind, Sem.run_map]
    refine Eq.trans (congrArg (fun r => Result.andThen (Result.andThen r _) _) hx) ?_
    rfl
  unfold resultsA at hv
  split at hv
  · rename_i r hrs
    unfold rFs at hrs
    split at hrs
    · rename_i r0 hl
      injection hrs with hrs; subst hrs
      obtain ⟨x, e, hx⟩ := resA_ok hc hf hr hv
      refine ⟨x, ?_, hx⟩
      rw [run [x] ?_]
      · rfl
      · rw [hl, List.mapM_cons]
        simp only [Sem.run_bind] at e ⊢
        rw [e]
        rfl
    · cases hrs
  · rename_i l hrs
    unfold rFs at hrs
    split at hrs
    · cases hrs
    · rename_i hne
      injection hrs with hrs; subst hrs
      split at hv
      · rename_i vs hvs
        rw [bsel_eq] at hv
        split at hv
        · cases hv
        · rename_i hnt
          injection hv with hv; subst hv
          obtain ⟨xs, e, t⟩ := resAs_ok hc hf hr hvs
          refine ⟨.tuple xs.toArray, ?_, xs.toArray, rfl, notTups (by simpa using hnt) t⟩
          rw [run xs e]
          have hlen : xs.length ≠ 1 := by
            intro e1
            have h2 : vs.length = (fn.results.toList.map (rF P c)).length := optAll_len hvs
            rw [List.length_map] at h2
            have h3 := t.length
            have h4 : fn.results.toList.length = 1 := by omega
            obtain ⟨r, hr⟩ := List.length_eq_one_iff.1 h4
            exact hne r hr
          rw [dif_neg (by simpa using hlen)]
      · cases hv
end Go.Ev
end

section
set_option autoImplicit false
namespace Go.Ev
variable {θ : Nat → Int} {P : Program}

theorem setArgs_get (keep : PT Unit) : ∀ (vs : List V) (n : Nat) (tm : PT V) (t : Nat) (v : V), PT.get (Pos.key t) (setArgs keep n vs tm) = some v → (∃ i, t = n + i ∧ vs[i]? = some v) ∨ PT.get (Pos.key t) tm = some v
  | [], n, tm, t, v, h => .inr h
  | u :: vs, n, tm, t, v, h => by
    rw [setArgs] at h
    rcases setArgs_get keep vs (n + 1) _ t v h with ⟨i, e, hi⟩ | h2
    · exact .inl ⟨i + 1, by omega, by simpa using hi⟩
    · split at h2
      · rw [PT.get_key_set] at h2
        split at h2
        · rename_i e
          injection h2 with h2; subst h2
          exact .inl ⟨0, by omega, rfl⟩
        · exact .inr h2
      · exact .inr h2

theorem outsAll_spec {r : RFs} : ∀ {l : List (Ex × PT V × Heap)} {L : List (V × Heap)}, outsAll r l = some L → ∀ e tm g, (e, tm, g) ∈ l → (e = .normal ∨ e = .ret) ∧ ∃ v, resultsA r tm g = some v ∧ (v, g) ∈ L
  | [], _, _, e, tm, g, hm => by cases hm
  | (x, tm0, g0) :: l, L, h, e, tm, g, hm => by
    have main : (x = .normal ∨ x = .ret) → (match resultsA r tm0 g0 with
        | some v => match outsAll r l with
          | some b => some ((v, g0) :: b)
          | none => none
        | none => none) = some L → (e = .normal ∨ e = .ret) ∧ ∃ v, resultsA r tm g = some v ∧ (v, g) ∈ L := by
      intro hx h
      split at h
      · rename_i v hv
        split at h
        · rename_i b hb
          injection h with h; subst h
          rcases List.mem_cons.1 hm with eq | hm
          · injection eq with e1 e2; injection e2 with e2 e3
            subst e1 e2 e3
            exact ⟨hx, v, hv, List.mem_cons_self ..⟩
          · obtain ⟨q1, v', q2, q3⟩ := outsAll_spec hb e tm g hm
            exact ⟨q1, v', q2, List.mem_cons_of_mem _ q3⟩
        · cases h
      · cases h
    cases x with
    | normal => exact main (.inl rfl) h
    | ret => exact main (.inr rfl) h
    | exit id => cases h
theorem leave_spec {r : RFs} {x : Res} (hb : leave r x ≠ .bad) : x ≠ .bad ∧ ∀ e tm g, ResHas x e tm g → (e = .normal ∨ e = .ret) ∧ ∃ v, resultsA r tm g = some v ∧ Has (leave r x) v g := by
  have one : ∀ (tm : PT V) (g : Heap), out1 g (resultsA r tm g) ≠ .bad → ∃ v, resultsA r tm g = some v ∧ Has (out1 g (resultsA r tm g)) v g := by
    intro tm g h
    cases hv : resultsA r tm g with
    | none => rw [hv] at h; exact absurd rfl h
    | some v => exact ⟨v, rfl, rfl, rfl⟩
  cases x with
  | bad => exact absurd rfl hb
  | norm tm g =>
    refine ⟨by simp, ?_⟩
    rintro e tm' g' ⟨rfl, rfl, rfl⟩
    exact ⟨.inl rfl, one _ _ hb⟩
  | exit id tm g => exact absurd rfl hb
  | ret tm g =>
    refine ⟨by simp, ?_⟩
    rintro e tm' g' ⟨rfl, rfl, rfl⟩
    exact ⟨.inr rfl, one _ _ hb⟩
  | many l =>
    refine ⟨by simp, fun e tm g hm => ?_⟩
    have e1 : leave r (.many l) = (match outsAll r l with
      | some l => .many l
      | none => .bad) := rfl
    rw [e1] at hb ⊢
    cases ho : outsAll r l with
    | none => rw [ho] at hb; exact absurd rfl hb
    | some L =>
      obtain ⟨q1, v, q2, q3⟩ := outsAll_spec ho e tm g hm
      exact ⟨q1, v, q2, q3⟩

/-- regions that draw their order -/
def DrawsOk (θ : Nat → Int) (P : Program) : Prop := ∀ (c : Cx) (call : CallF) (pl : List (Nat × Nat)) (id : Nat) (ops : Array Oper), c.loc = [] → Env θ P c.gl call → chkDr ops pl = true → CodeOk θ P c call (exDraw (drF P ops c [] pl)) (.region id ops true)

theorem enter_ok (hE : ExtOk P) (hN : NameOk P) (hD : DrawsOk θ P) (tb : Tab) {call : CallF} (hcall : CallOk θ P tb.gl call) : CallOk θ P tb.gl (fun f args h => enter call (fF P tb f) args h) := by
  intro f vs h ρ w xs hb hg hr t
  simp only at hb ⊢
  unfold fF at hb ⊢
  cases hfn : P.funcs[f]? with
  | none => rw [hfn] at hb; exact absurd rfl hb
  | some fn =>
    rw [hfn] at hb
    simp only at hb ⊢
    cases hbody : fn.body with
    | none => rw [hbody] at hb; exact absurd rfl hb
    | some code =>
      rw [hbody] at hb
      simp only at hb ⊢
      refine ⟨⟨fn, code, rfl, hbody⟩, ?_⟩
      change bsel (Nat.ble vs.length fn.ntmps) _ Out.bad ≠ Out.bad at hb
      change Calls P f xs.toArray w (CallR θ ρ h w (bsel (Nat.ble vs.length fn.ntmps) (leave (rFs P ⟨tb.gl, [], tb.kp f, fn.ntmps⟩ fn.results.toList)
        (exec (cF P (tb.pl f) ⟨tb.gl, [], tb.kp f, fn.ntmps⟩ code) call (setArgs (tb.kp f) 0 vs .nil) h)) .bad))
      cases hle : Nat.ble vs.length fn.ntmps with
      | false => rw [hle] at hb; exact absurd rfl hb
      | true =>
        rw [hle, bsel_true] at hb
        rw [bsel_true]
        rw [nble_iff, decide_eq_true_iff] at hle
        have hlen := t.length
        obtain ⟨h1, h2⟩ := leave_spec hb
        refine calls_of_wp hfn hbody ?_
        have hok := code_ok (θ := θ) (P := P) (c := ⟨tb.gl, [], tb.kp f, fn.ntmps⟩) (call := call) ⟨hE, hN, hcall⟩ rfl (pl := tb.pl f) (fun id ops hchk => hD _ _ _ _ _ rfl ⟨hE, hN, hcall⟩ hchk) code
        refine hok (setArgs (tb.kp f) 0 vs .nil) h ρ _ w _ hg hr ?_ ?_ h1 ?_
        · intro u v _ hv
          rcases setArgs_get _ _ _ _ _ _ hv with ⟨i, e, hi⟩ | hnil
          · rw [Nat.zero_add] at e; subst e
            obtain ⟨x, hx, hrel⟩ := t.get hi
            refine ⟨x, ?_, hrel⟩
            have hlt : u < xs.length := (List.getElem?_eq_some_iff.1 hx).1
            rw [Array.getElem?_append_left (by simpa using hlt)]
            simpa using hx
          · cases hp : Pos.key u <;> rw [hp] at hnil <;> cases hnil
        · simp; omega
        · intro e tm' h' ρ' a' w' hh af
          obtain ⟨q1, v, q2, q3⟩ := h2 e tm' h' hh
          obtain ⟨x, e1, hx⟩ := results_ok (P := P) (c := ⟨tb.gl, [], tb.kp f, fn.ntmps⟩) rfl af.frame af.heap q2
          rcases q1 with rfl | rfl
          · exact ⟨af.defers, x, e1, v, h', ρ', q3, af.le, af.heap, hx, af.fram⟩
          · exact ⟨af.defers, x, e1, v, h', ρ', q3, af.le, af.heap, hx, af.fram⟩

/-- what may be done at a call -/
def PostOk (θ : Nat → Int) (P : Program) (gl : Nat → Option (List V)) (post : FuncId → CallF → CallF) : Prop := ∀ call, CallOk θ P gl call → CallOk θ P gl (fun f args h => post f call f args h)
theorem callN_ok (hE : ExtOk P) (hN : NameOk P) (hD : DrawsOk θ P) (tb : Tab) {post : FuncId → CallF → CallF} (hp : PostOk θ P tb.gl post) : ∀ d, CallOk θ P tb.gl (callN P tb post d)
  | 0 => fun _ _ _ _ _ _ hb => absurd rfl hb
  | d + 1 => hp _ (enter_ok hE hN hD tb (callN_ok hE hN hD tb hp d))
end Go.Ev
end
