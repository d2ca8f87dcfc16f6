import Derived.Test.YtienogpnkkailaaGreatDoorEvG
section
set_option autoImplicit false
namespace Go.Ev
variable {θ : Nat → Int} {P : Program} {ρ : Ro} {h : Heap} {w : World}

/-! ### memory that does not change any more -/
def Ro.pure (f : Fz) : Ro := ⟨fun _ => none, f⟩
theorem pure_le {f g : Fz} (h : f.le g) : (Ro.pure f).le (Ro.pure g) := ⟨fun _ _ e => (by cases e), h⟩
theorem pure_le_of (ρ : Ro) : (Ro.pure ρ.fz).le ρ := ⟨fun _ _ e => (by cases e), fun _ _ e => e⟩
def Ro.freeze (ρ : Ro) (q : Nat) (c : Array Value) : Ro := ⟨ρ.pl, fun k => if k = q then some c else ρ.fz k⟩

theorem freeze_blk {b : Nat} {cs : List V} {len : Nat} {t : Tail} {p : Pl} (hr : HRel θ ρ h w) (hb : h.get b = some (.blk cs len t)) (hp : ρ b = some p) :
    ∃ c, ρ.le (ρ.freeze p.blk c) ∧ HRel θ (ρ.freeze p.blk c) (h.del b) w ∧ Fram ρ h w (ρ.freeze p.blk c) (h.del b) w ∧ cs.length = len ∧ ∀ (i : Nat) (v : V), cs[i]? = some v → ∃ x, c[p.base + i]? = some x ∧ CRel θ ρ v x := by
  obtain ⟨p', hp', hl, c, e, fr, hc, hf, hs, hcell, ht⟩ := hr.obj _ _ _ hb hp
  rw [hp] at hp'; injection hp' with hp'; subst hp'
  have hown : Own ρ h p.blk := ⟨b, p, _, hb, hp, rfl⟩
  have hno : ρ.fz p.blk = none := by
    cases e2 : ρ.fz p.blk with
    | none => rfl
    | some c' => exact absurd hown (hr.frz _ _ e2).2
  have hle : ρ.le (ρ.freeze p.blk c) := ⟨fun _ _ e => e, fun q z hz => by
    show (if q = p.blk then some c else ρ.fz q) = some z
    by_cases eq : q = p.blk
    · rw [eq, hno] at hz; cases hz
    · rw [if_neg eq]; exact hz⟩
  have hdel := hr.del b
  have hsub : ∀ a o, (h.del b).get a = some o → h.get a = some o ∧ a ≠ b := fun a o ha => by
    rw [Heap.get_del] at ha
    by_cases e : a = b
    · rw [if_pos e] at ha; cases ha
    · rw [if_neg e] at ha; exact ⟨ha, e⟩
  have hown' : ∀ q, Own (ρ.freeze p.blk c) (h.del b) q → Own ρ h q ∧ q ≠ p.blk := by
    rintro q ⟨a, r, o, ha, hq, e⟩
    obtain ⟨ha', hne⟩ := hsub a o ha
    exact ⟨⟨a, r, o, ha', hq, e⟩, fun e' => hne (hr.inj a b r p o _ ha' hb hq hp (by rw [e, e']))⟩
  refine ⟨c, hle, ⟨hdel.dom, fun a o r ha hq => ?_, hdel.inj, fun q z hz => ?_⟩, ⟨Nat.le_refl _, fun q hq hn => ⟨rfl, fun ho => hn (hown' q ho).1⟩, Nat.le_refl _, fun x hx hn => ⟨hn, ?_⟩, fun q z hz hq hn => ?_, rfl, rfl⟩, hl, hcell⟩
  · exact (hdel.obj a o r ha hq).mono hle fun _ _ => rfl
  · change (if q = p.blk then some c else ρ.fz q) = some z at hz
    by_cases eq : q = p.blk
    · rw [if_pos eq] at hz; injection hz with hz; subst hz
      exact ⟨⟨e, fr, by rw [eq]; exact hc⟩, fun ho => (hown' q ho).2 eq⟩
    · rw [if_neg eq] at hz
      exact ⟨(hr.frz q z hz).1, fun ho => (hr.frz q z hz).2 (hown' q ho).1⟩
  · rw [Heap.get_del, if_neg (fun e => by rw [e, hp] at hn; cases hn)]
  · change (if q = p.blk then some c else ρ.fz q) = some z at hz
    by_cases eq : q = p.blk
    · rw [eq] at hn; exact absurd hown hn
    · rw [if_neg eq] at hz; exact hz

theorem leafV_ok {v v' : V} {h h' : Heap} (hl : leafV v h = some (v', h')) : v' = v ∧ h' = h ∧ ∀ {ρ : Ro} {x : Value}, CRel θ ρ v x → ZRel θ ρ.fz v x := by
  cases v <;> simp only [leafV, reduceCtorEq, Option.some.injEq, Prod.mk.injEq] at hl
  all_goals
    obtain ⟨rfl, rfl⟩ := hl
    refine ⟨rfl, rfl, fun hr => ?_⟩
    simp only [CRel] at hr
    first
      | exact hr
      | (simp only [ZRel]; exact hr)

/-- what becomes of a cell -/
def FOk (θ : Nat → Int) (f : Fz1) : Prop := ∀ (v : V) (h : Heap) (v' : V) (h' : Heap) (ρ : Ro) (w : World) (x : Value), f v h = some (v', h') → HRel θ ρ h w → CRel θ ρ v x →
  ∃ ρ', ρ.le ρ' ∧ ρ'.pl = ρ.pl ∧ HRel θ ρ' h' w ∧ ZRel θ ρ'.fz v' x ∧ Fram ρ h w ρ' h' w
theorem leaf_fok : FOk θ leafV := by
  intro v h v' h' ρ w x hl hr hx
  obtain ⟨rfl, rfl, hz⟩ := leafV_ok (θ := θ) hl
  exact ⟨ρ, Ro.le_refl _, rfl, hr, hz hx, Fram.refl _ _ _⟩

theorem frzL_ok {rec : Sh → Fz1} (hrec : ∀ s, FOk θ (rec s)) (cyc : List Sh) : ∀ (l : List V) (cur : List Sh) (h : Heap) (l' : List V) (h' : Heap) (ρ : Ro) (w : World) (xs : List Value), frzL rec cyc cur l h = some (l', h') → HRel θ ρ h w → All2 (CRel θ ρ) l xs →
    ∃ ρ', ρ.le ρ' ∧ ρ'.pl = ρ.pl ∧ HRel θ ρ' h' w ∧ All2 (ZRel θ ρ'.fz) l' xs ∧ Fram ρ h w ρ' h' w
  | [], cur, h, l', h', ρ, w, xs, hl, hr, t => by
    cases t
    have hl : some (([] : List V), h) = some (l', h') := by cases cur <;> exact hl
    injection hl with hl; injection hl with h1 h2; subst h1; subst h2
    exact ⟨ρ, Ro.le_refl _, rfl, hr, .nil, Fram.refl _ _ _⟩
  | v :: l, cur, h, l', h', ρ, w, xs, hl, hr, t => by
    have step : ∀ (s : Sh) (cur' : List Sh), (match rec s v h with
        | some r => match frzL rec cyc cur' l r.2 with
          | some q => some (r.1 :: q.1, q.2)
          | none => none
        | none => none) = some (l', h') → ∃ ρ', ρ.le ρ' ∧ ρ'.pl = ρ.pl ∧ HRel θ ρ' h' w ∧ All2 (ZRel θ ρ'.fz) l' xs ∧ Fram ρ h w ρ' h' w := by
      intro s cur' hl
      cases t with
      | cons hx t =>
        split at hl
        · rename_i r hr1
          split at hl
          · rename_i q hq
            injection hl with hl; injection hl with h1 h2; subst h1; subst h2
            obtain ⟨v', g⟩ := r
            obtain ⟨ρ1, a1, a2, a3, a4, a5⟩ := hrec s v h v' g ρ w _ hr1 hr hx
            obtain ⟨l2, g2⟩ := q
            obtain ⟨ρ2, b1, b2, b3, b4, b5⟩ := frzL_ok hrec cyc l cur' g l2 g2 ρ1 w _ hq a3 (t.mono fun _ _ hh => hh.mono a1)
            exact ⟨ρ2, Ro.le_trans a1 b1, b2.trans a2, b3, .cons (ZRel.mono b1.fz a4) b4, a5.trans b5⟩
          · cases hl
        · cases hl
    cases cur with
    | cons s cur => exact step s cur hl
    | nil =>
      cases cyc with
      | nil => cases hl
      | cons s cyc => exact step s cyc hl

theorem all2_zrels {f : Fz} {c : Array Value} {o : Nat} {l : List V} {xs : List Value} (t : All2 (ZRel θ f) l xs) (hc : ∀ (i : Nat) (x : Value), xs[i]? = some x → c[o + i]? = some x) : ZRels θ f l c o :=
  zrels_of fun i _ hi => let ⟨x, h1, h2⟩ := t.get hi; ⟨x, hc i x h1, h2⟩

theorem frzS_ok {rec : Sh → Fz1} (hrec : ∀ s, FOk θ (rec s)) (cs : List Sh) : FOk θ (frzS rec cs) := by
  intro v h v' h' ρ w x hf hr hx
  unfold frzS at hf
  split at hf
  · rename_i b off n cap
    split at hf
    · rename_i c len tl hb
      split at hf
      · rename_i l hrd
        split at hf
        · rename_i q hq
          obtain ⟨hcap, hf⟩ := bsel_bad_opt hf
          injection hf with hf; injection hf with h1 h2; subst h1; subst h2
          obtain ⟨p, hp, rfl⟩ : ∃ p, ρ b = some p ∧ x = .slice (some ⟨p.blk, p.base + off, none⟩) n (cap.of p) := hx
          obtain ⟨cc, a1, a2, a3, a4, a5⟩ := freeze_blk hr hb hp
          obtain ⟨r1, rfl⟩ := rd_eq a4 hrd
          have hget : ∀ (i : Nat) (v : V), ((c.drop off).take (n * cs.length))[i]? = some v → ∃ x, cc[p.base + off + i]? = some x ∧ CRel θ ρ v x := fun i v hi => by
            have hin : i < n * cs.length := by
              have := (List.getElem?_eq_some_iff.1 hi).1
              simp at this; omega
            rw [List.getElem?_take, if_pos hin, List.getElem?_drop] at hi
            obtain ⟨x, h1, h2⟩ := a5 (off + i) v hi
            exact ⟨x, by rw [Nat.add_assoc]; exact h1, h2⟩
          have hlen : ((c.drop off).take (n * cs.length)).length = n * cs.length := by simp; omega
          -- the values of the cells
          have hxs : ∃ xs : List Value, All2 (CRel θ (ρ.freeze p.blk cc)) ((c.drop off).take (n * cs.length)) xs ∧ ∀ (i : Nat) (x : Value), xs[i]? = some x → cc[p.base + off + i]? = some x := by
            refine ⟨(cc.toList.drop (p.base + off)).take (n * cs.length), All2.of_get ?_ ?_, ?_⟩
            · rw [hlen]
              have : n * cs.length = 0 ∨ p.base + off + n * cs.length ≤ cc.size := by
                cases hz : n * cs.length with
                | zero => exact .inl rfl
                | succ k =>
                  obtain ⟨x, h1, _⟩ := hget k _ (List.getElem?_eq_getElem (by rw [hlen, hz]; omega))
                  have := (Array.getElem?_eq_some_iff.1 h1).1
                  exact .inr (by omega)
              simp only [List.length_take, List.length_drop, Array.length_toList]
              omega
            · intro i v hi
              obtain ⟨x, h1, h2⟩ := hget i v hi
              have hin : i < n * cs.length := by have := (List.getElem?_eq_some_iff.1 hi).1; omega
              refine ⟨x, ?_, h2.mono a1⟩
              rw [List.getElem?_take, if_pos hin, List.getElem?_drop, Array.getElem?_toList]; exact h1
            · intro i x hi
              have hin : i < n * cs.length := by
                have := (List.getElem?_eq_some_iff.1 hi).1
                simp at this; omega
              rw [List.getElem?_take, if_pos hin, List.getElem?_drop, Array.getElem?_toList] at hi
              exact hi
          obtain ⟨xs, hxr, hxc⟩ := hxs
          obtain ⟨l', g⟩ := q
          obtain ⟨ρ2, b1, b2, b3, b4, b5⟩ := frzL_ok hrec cs _ cs _ l' g _ w xs hq a2 hxr
          refine ⟨ρ2, Ro.le_trans a1 b1, b2, b3, ?_, a3.trans b5⟩
          simp only [ZRel]
          refine ⟨p.blk, p.base + off, cap.of p, cc, rfl, ?_, b1.fz _ _ (if_pos rfl), all2_zrels b4 hxc⟩
          unfold capOk at hcap
          split at hcap
          · rw [nble_iff, decide_eq_true_iff] at hcap; exact hcap
          · split at hcap
            · rename_i k _ sz
              simp only [band_eq, Bool.and_eq_true, nbeq_iff, decide_eq_true_eq] at hcap
              obtain ⟨e1, e2⟩ := hcap
              obtain ⟨p', hp', _, _, _, _, _, _, _, _, h0, h1, _⟩ := hr.obj _ _ _ hb hp
              rw [hp] at hp'; injection hp' with hp'; subst hp'
              show n ≤ p.cap - k
              rw [← e1, e2, ← Nat.add_mul] at r1
              have := Nat.le_of_mul_le_mul_right (Nat.le_trans r1 h1) h0
              omega
            · cases hcap
        · cases hf
      · cases hf
    · cases hf
  · exact leaf_fok v h v' h' ρ w x hf hr hx

theorem frzV_ok : ∀ (d : Nat) (s : Sh), FOk θ (frzV d s)
  | 0, s => by intro v h v' h' ρ w x hf; exact leaf_fok v h v' h' ρ w x hf
  | d + 1, s => by
    intro v h v' h' ρ w x hf
    cases s with
    | plain => exact leaf_fok v h v' h' ρ w x hf
    | sl cs => exact frzS_ok (frzV_ok d) cs v h v' h' ρ w x hf
theorem frzV_leaf {d : Nat} {s : Sh} {v : V} {h : Heap} (h1 : leafV v h = none) (h2 : ∀ b off n cap, v ≠ .slice b off n cap) : frzV d s v h = none := by
  cases d with
  | zero => exact h1
  | succ d =>
    cases s with
    | plain => exact h1
    | sl cs =>
      show frzS (frzV d) cs v h = none
      unfold frzS
      split
      · exact absurd rfl (h2 _ _ _ _)
      · exact h1

theorem zrel_arel {f : Fz} {v : V} {x : Value} (h : ZRel θ f v x) : ARel θ (Ro.pure f) v x := crel_arel (zrel_crel (ρ := Ro.pure f) h)
theorem frzA_ok {shs : List Sh} {v v' : V} {h h' : Heap} {ρ : Ro} {w : World} {x : Value} (hf : frzA shs v h = some (v', h')) (hr : HRel θ ρ h w) (hx : VRel θ ρ v x) :
    ∃ ρ', ρ.le ρ' ∧ ρ'.pl = ρ.pl ∧ HRel θ ρ' h' w ∧ ARel θ (Ro.pure ρ'.fz) v' x ∧ Fram ρ h w ρ' h' w := by
  have one : ∀ s, frzV 8 s v h = some (v', h') → (∀ n cs, v ≠ .agg n cs) → ∃ ρ', ρ.le ρ' ∧ ρ'.pl = ρ.pl ∧ HRel θ ρ' h' w ∧ ARel θ (Ro.pure ρ'.fz) v' x ∧ Fram ρ h w ρ' h' w := by
    intro s hs hna
    have hnt : ∀ l, v ≠ .tup l := fun l e => by
      rw [e, frzV_leaf rfl (fun _ _ _ _ e' => by cases e')] at hs; cases hs
    have hc : CRel θ ρ v x := by
      cases v <;> first
        | exact hx
        | exact absurd rfl (hna _ _)
        | exact absurd rfl (hnt _)
    obtain ⟨ρ', a1, a2, a3, a4, a5⟩ := frzV_ok 8 s v h v' h' ρ w x hs hr hc
    exact ⟨ρ', a1, a2, a3, zrel_arel a4, a5⟩
  unfold frzA at hf
  split at hf
  · rename_i n cs
    split at hf
    · rename_i q hq
      injection hf with hf; injection hf with h1 h2; subst h1; subst h2
      obtain ⟨hl, xs, rfl, t⟩ := vrel_agg hx
      obtain ⟨l', g⟩ := q
      obtain ⟨ρ', a1, a2, a3, a4, a5⟩ := frzL_ok (frzV_ok 8) [] cs shs h l' g ρ w xs.toList hq hr t
      refine ⟨ρ', a1, a2, a3, ⟨?_, xs, rfl, a4.mono fun _ _ hz => zrel_crel (ρ := Ro.pure ρ'.fz) hz⟩, a5⟩
      rw [a4.length, ← t.length, hl]
    · cases hf
  · rename_i hna
    split at hf
    · exact one _ hf fun n cs e => hna n cs e
    · cases hf
theorem frzAs_ok : ∀ {ss : List (List Sh)} {vs vs' : List V} {h h' : Heap} {ρ : Ro} {xs : List Value}, frzAs ss vs h = some (vs', h') → HRel θ ρ h w → All2 (VRel θ ρ) vs xs →
    ∃ ρ', ρ.le ρ' ∧ ρ'.pl = ρ.pl ∧ HRel θ ρ' h' w ∧ All2 (ARel θ (Ro.pure ρ'.fz)) vs' xs ∧ Fram ρ h w ρ' h' w
  | ss, [], vs', h, h', ρ, xs, hf, hr, t => by
    cases t
    have hf : some (([] : List V), h) = some (vs', h') := by cases ss <;> exact hf
    injection hf with hf; injection hf with h1 h2; subst h1; subst h2
    exact ⟨ρ, Ro.le_refl _, rfl, hr, .nil, Fram.refl _ _ _⟩
  | [], v :: vs, vs', h, h', ρ, xs, hf, hr, t => by cases hf
  | s :: ss, v :: vs, vs', h, h', ρ, xs, hf, hr, t => by
    cases t with
    | cons hx t =>
      simp only [frzAs] at hf
      split at hf
      · rename_i r hr1
        split at hf
        · rename_i q hq
          injection hf with hf; injection hf with h1 h2; subst h1; subst h2
          obtain ⟨v', g⟩ := r
          obtain ⟨ρ1, a1, a2, a3, a4, a5⟩ := frzA_ok hr1 hr hx
          obtain ⟨l2, g2⟩ := q
          obtain ⟨ρ2, b1, b2, b3, b4, b5⟩ := frzAs_ok hq a3 (t.mono fun _ _ hh => hh.mono a1)
          exact ⟨ρ2, Ro.le_trans a1 b1, b2.trans a2, b3, .cons (a4.mono (pure_le b1.fz)) b4, a5.trans b5⟩
        · cases hf
      · cases hf
theorem frzR_ok {rs : List (List Sh)} {v v' : V} {h h' : Heap} {ρ : Ro} {x : Value} (hf : frzR rs v h = some (v', h')) (hr : HRel θ ρ h w) (hx : VRel θ ρ v x) :
    ∃ ρ', ρ.le ρ' ∧ ρ'.pl = ρ.pl ∧ HRel θ ρ' h' w ∧ VRel θ (Ro.pure ρ'.fz) v' x ∧ Fram ρ h w ρ' h' w := by
  unfold frzR at hf
  split at hf
  · rename_i l
    split at hf
    · rename_i q hq
      injection hf with hf; injection hf with h1 h2; subst h1; subst h2
      obtain ⟨xs, rfl, t⟩ : ∃ xs, x = .tuple xs ∧ All2 (ARel θ ρ) l xs.toList := hx
      obtain ⟨l', g⟩ := q
      obtain ⟨ρ', a1, a2, a3, a4, a5⟩ := frzAs_ok hq hr (t.mono fun _ _ hh => arel_vrel hh)
      exact ⟨ρ', a1, a2, a3, ⟨xs, rfl, a4⟩, a5⟩
    · cases hf
  · split at hf
    · obtain ⟨ρ', a1, a2, a3, a4, a5⟩ := frzA_ok hf hr hx
      exact ⟨ρ', a1, a2, a3, arel_vrel a4, a5⟩
    · cases hf

/-! ### a call in a memory of its own -/
/-- what such a call comes to -/
def DenR (θ : Nat → Int) (ρ : Ro) (h : Heap) (w : World) (l : List V) : Ending → World → Prop
  | .returned x, w' => ∃ v ρ', v ∈ l ∧ ρ.le ρ' ∧ ρ'.pl = ρ.pl ∧ HRel θ ρ' h w' ∧ VRel θ (Ro.pure ρ'.fz) v x ∧ Fram ρ h w ρ' h w' ∧ w.heap.size ≤ w'.heap.size ∧ ∀ q, q < w.heap.size → w'.heap[q]? = w.heap[q]?
  | .panicked _, _ => False
  | .outgrown, _ => False
theorem emptyH_get (b : Nat) : emptyH.get b = none := PT.get_nil _
theorem HRel.empty (hr : HRel θ ρ h w) : HRel θ (Ro.pure ρ.fz) emptyH w :=
  ⟨fun b p hp => (by cases hp), fun b o p ho => (by rw [emptyH_get] at ho; cases ho), fun a b p q o o' ho => (by rw [emptyH_get] at ho; cases ho),
    fun q c hz => ⟨(hr.frz q c hz).1, fun ⟨b, p, o, ho, _⟩ => by rw [emptyH_get] at ho; cases ho⟩⟩
theorem no_own (ρ : Ro) (q : Nat) : ¬ Own ρ emptyH q := fun ⟨b, p, o, ho, _⟩ => by rw [emptyH_get] at ho; cases ho
theorem GOk.pure {gl : Nat → Option (List V)} (hg : GOk θ gl ρ) : GOk θ gl (Ro.pure ρ.fz) := hg

theorem vMem_mem {v : V} : ∀ {l : List V}, vMem v l = true → v ∈ l
  | [], h => by cases h
  | u :: l, h => by
    simp only [vMem, bor_eq, Bool.or_eq_true] at h
    rcases h with h | h
    · rw [vEq_eq h]; exact List.mem_cons_self
    · exact List.mem_cons_of_mem _ (vMem_mem h)
theorem frzRs_has {rs : List (List Sh)} : ∀ {l : List (V × Heap)} {L : List V}, frzRs rs l = some L → ∀ x ∈ l, ∃ r, frzR rs x.1 x.2 = some r ∧ r.1 ∈ L
  | [], _, _, x, hx => by cases hx
  | y :: l, L, h, x, hx => by
    simp only [frzRs] at h
    split at h
    · rename_i r hr
      split at h
      · rename_i q hq
        injection h with h; subst h
        rw [bsel_eq]
        rcases List.mem_cons.1 hx with rfl | hx
        · refine ⟨r, hr, ?_⟩
          split
          · rename_i hm; exact vMem_mem hm
          · exact List.mem_cons_self
        · obtain ⟨r', h1, h2⟩ := frzRs_has hq x hx
          refine ⟨r', h1, ?_⟩
          split
          · exact h2
          · exact List.mem_cons_of_mem _ h2
      · cases h
    · cases h
theorem sandO_has {rs : List (List Sh)} {o : Out} {L : List V} (h : sandO rs o = some L) : o ≠ .bad ∧ ∀ v g, Has o v g → ∃ r, frzR rs v g = some r ∧ r.1 ∈ L := by
  cases o with
  | bad => cases h
  | one v g =>
    refine ⟨by simp, ?_⟩
    rintro v' g' ⟨rfl, rfl⟩
    simp only [sandO] at h
    split at h
    · rename_i r hr
      injection h with h; subst h
      exact ⟨r, hr, List.mem_cons_self⟩
    · cases h
  | many l =>
    refine ⟨by simp, fun v g hm => ?_⟩
    exact frzRs_has h (v, g) hm

theorem den_ok {gl : Nat → Option (List V)} {call : CallF} {rs : List (List Sh)} {f : FuncId} {args : List V} {L : List V} {xs : List Value} (hcall : CallOk θ P gl call) (hd : den call rs f args = some L) (hg : GOk θ gl ρ) (hr : HRel θ ρ h w)
    (t : All2 (ARel θ (Ro.pure ρ.fz)) args xs) : (∃ fn b, P.funcs[f]? = some fn ∧ fn.body = some b) ∧ Calls P f xs.toArray w (DenR θ ρ h w L) := by
  obtain ⟨hne, hhas⟩ := sandO_has hd
  obtain ⟨h1, h2⟩ := hcall f args emptyH (Ro.pure ρ.fz) w xs hne hg.pure hr.empty (t.mono fun _ _ hh => arel_vrel hh)
  refine ⟨h1, Calls.mono h2 fun e w' he => ?_⟩
  cases e with
  | panicked _ => exact he
  | outgrown => exact he
  | returned x =>
    obtain ⟨v, g, ρ', hv, hle, hr', hx, hf⟩ := he
    obtain ⟨⟨v', g'⟩, hz, hm⟩ := hhas v g hv
    obtain ⟨ρ2, a1, a2, a3, a4, a5⟩ := frzR_ok hz hr' hx
    have hf2 := hf.trans a5
    have hfz : ρ.fz.le ρ2.fz := fun q c e => a1.fz q c (hle.fz q c e)
    have hold : ∀ q, q < w.heap.size → w'.heap[q]? = w.heap[q]? := fun q hq => (hf.keep q hq (no_own _ q)).1
    have hle2 : ρ.le ⟨ρ.pl, ρ2.fz⟩ := ⟨fun _ _ e => e, hfz⟩
    have hnew : ∀ q c, ρ2.fz q = some c → q < w.heap.size → ρ.fz q = some c := fun q c hz hq => hf2.frz q c hz hq (no_own _ q)
    have hown : ∀ q, Own ⟨ρ.pl, ρ2.fz⟩ h q → Own ρ h q := fun q ⟨b, p, o, h1, h2, h3⟩ => ⟨b, p, o, h1, h2, h3⟩
    refine ⟨v', ⟨ρ.pl, ρ2.fz⟩, hm, hle2, rfl, ⟨fun b p hp => ?_, fun b o p ho hp => ?_, hr.inj, fun q c hz => ?_⟩, a4, ⟨hf.grow, fun q hq hn => ⟨hold q hq, fun ho => hn (hown q ho)⟩, Nat.le_refl _, fun b hb hn => ⟨hn, rfl⟩, fun q c hz hq _ => hnew q c hz hq, hf.io⟩, hf.grow, hold⟩
    · have := hr.dom b p hp
      exact ⟨this.1, Nat.lt_of_lt_of_le this.2 hf.grow⟩
    · exact (hr.obj b o p ho hp).mono hle2 fun p' hp' => hold _ (hr.dom b p' hp').2
    · refine ⟨(a3.frz q c hz).1, fun ho => ?_⟩
      obtain ⟨b, p, o, h1, h2, h3⟩ := hown q ho
      have hq : q < w.heap.size := by rw [← h3]; exact (hr.dom b p h2).2
      exact (hr.frz q c (hnew q c hz hq)).2 ⟨b, p, o, h1, h2, h3⟩
end Go.Ev
end

section
set_option autoImplicit false
namespace Go.Ev
variable {θ : Nat → Int} {P : Program} {ρ : Ro} {h : Heap} {w : World}

theorem outVs_has {v : V} {l : List V} (hm : v ∈ l) (h : Heap) : Has (outVs h l) v h := by
  unfold outVs
  split
  · rename_i u
    rw [List.mem_singleton.1 hm]
    exact ⟨rfl, rfl⟩
  · exact List.mem_map.2 ⟨v, hm, rfl⟩

theorem All2.mono_mem {α β : Type} {R S : α → β → Prop} {p : α → Prop} (h : ∀ a b, p a → R a b → S a b) : ∀ {l : List α} {m : List β}, (∀ a ∈ l, p a) → All2 R l m → All2 S l m
  | _, _, _, .nil => .nil
  | _, _, hp, .cons h1 t => .cons (h _ _ (hp _ List.mem_cons_self) h1) (All2.mono_mem h (fun a ha => hp a (List.mem_cons_of_mem _ ha)) t)
theorem plainC_rel {v : V} {x : Value} {ρ ρ' : Ro} (hp : plainC v = true) (hx : CRel θ ρ v x) : CRel θ ρ' v x := by
  cases v <;> first
    | exact hx
    | cases hp
theorem plainA_rel {v : V} {x : Value} {ρ ρ' : Ro} (hp : plainA v = true) (hx : ARel θ ρ v x) : ARel θ ρ' v x := by
  cases v <;> first
    | exact hx
    | (cases hp; done)
    | skip
  rename_i n cs
  obtain ⟨hl, xs, rfl, t⟩ := hx
  exact ⟨hl, xs, rfl, t.mono_mem (p := fun v => plainC v = true) (fun _ _ h1 h2 => plainC_rel h1 h2) (List.all_eq_true.1 hp)⟩
theorem plainV_rel {v : V} {x : Value} {ρ ρ' : Ro} (hp : plainV v = true) (hx : VRel θ ρ v x) : VRel θ ρ' v x := by
  have one : plainA v = true → ARel θ ρ v x → ARel θ ρ' v x := fun h1 h2 => plainA_rel h1 h2
  cases v <;> first
    | exact one hp hx
    | skip
  rename_i l
  obtain ⟨xs, rfl, t⟩ := hx
  exact ⟨xs, rfl, t.mono_mem (p := fun v => plainA v = true) (fun _ _ h1 h2 => plainA_rel h1 h2) (List.all_eq_true.1 hp)⟩

/-- The memory has grown, and nothing else. -/
theorem HRel.grown (hr : HRel θ ρ h w) {w' : World} (hs : w.heap.size ≤ w'.heap.size) (hk : ∀ q, q < w.heap.size → w'.heap[q]? = w.heap[q]?) (hio : w'.os = w.os ∧ w'.output = w.output) : HRel θ ρ h w' ∧ Fram ρ h w ρ h w' := by
  refine ⟨⟨fun b p hp => ?_, fun b o p ho hp => ?_, hr.inj, fun q c hz => ?_⟩, ⟨hs, fun q hq hn => ⟨hk q hq, hn⟩, Nat.le_refl _, fun b _ hn => ⟨hn, rfl⟩, fun q c hz _ _ => hz, hio⟩⟩
  · have := hr.dom b p hp
    exact ⟨this.1, Nat.lt_of_lt_of_le this.2 hs⟩
  · exact (hr.obj b o p ho hp).mono (Ro.le_refl _) fun p' hp' => hk _ (hr.dom b p' hp').2
  · obtain ⟨⟨e, fr, h1⟩, h2⟩ := hr.frz q c hz
    exact ⟨⟨e, fr, by rw [hk q (Array.getElem?_eq_some_iff.1 h1).1]; exact h1⟩, h2⟩

/-- what is known already is true -/
def MemoOk (θ : Nat → Int) (P : Program) (gl : Nat → Option (List V)) (memo : Memo) : Prop :=
  ∀ (f : FuncId) (args L : List V) (ρ : Ro) (h : Heap) (w : World) (xs : List Value), memo f args = some L → GOk θ gl ρ → HRel θ ρ h w → All2 (ARel θ (Ro.pure ρ.fz)) args xs →
    (∃ fn b, P.funcs[f]? = some fn ∧ fn.body = some b) ∧ Calls P f xs.toArray w (DenR θ ρ h w L)
theorem memo_none {gl : Nat → Option (List V)} : MemoOk θ P gl (fun _ _ => none) := fun _ _ _ _ _ _ _ h => by cases h

theorem bndOut_ok {L : List V} {h' : Heap} {ρ' : Ro} {e : Ending} {w' : World} (hr : HRel θ ρ h w) (hle : ρ.le ρ') (hf : Fram ρ h w ρ' h' w) (hd : DenR θ ρ' h' w L e w') : CallR θ ρ h w (bndOut h h' L) e w' := by
  cases e with
  | panicked _ => exact hd
  | outgrown => exact hd
  | returned x =>
    obtain ⟨v, ρ2, hm, hle2, _, hr2, hx, hf2, hs, hk⟩ := hd
    unfold bndOut
    rw [bsel_eq]
    split
    · rename_i hp
      obtain ⟨g1, g2⟩ := hr.grown hs hk hf2.io
      exact ⟨v, h, ρ, outVs_has hm h, Ro.le_refl _, g1, plainV_rel (List.all_eq_true.1 hp v hm) hx, g2⟩
    · exact ⟨v, h', ρ2, outVs_has hm h', Ro.le_trans hle hle2, hr2, hx.mono (pure_le_of ρ2), hf.trans hf2⟩

theorem bnd_ok {gl : Nat → Option (List V)} (bt : PT Bnd) {memo : Memo} (hm : MemoOk θ P gl memo) : PostOk θ P gl (bndPost bt memo) := by
  intro call hcall f vs h ρ w xs hb hg hr t
  simp only [bndPost] at hb ⊢
  split at hb
  · rename_i b hbt
    unfold bndCall at hb ⊢
    split at hb
    · rename_i q hq
      obtain ⟨vs', h'⟩ := q
      obtain ⟨ρ', a1, a2, a3, a4, a5⟩ := frzAs_ok hq hr t
      have fin : ∀ L, ((∃ fn b, P.funcs[f]? = some fn ∧ fn.body = some b) ∧ Calls P f xs.toArray w (DenR θ ρ' h' w L)) →
          (∃ fn b, P.funcs[f]? = some fn ∧ fn.body = some b) ∧ Calls P f xs.toArray w (CallR θ ρ h w (bndOut h h' L)) := fun L ⟨h1, h2⟩ =>
        ⟨h1, Calls.mono h2 fun e w' he => bndOut_ok hr a1 a5 he⟩
      split at hb
      · rename_i L hL
        simp only at hL
        exact fin L (hm f vs' L ρ' h' w xs hL (hg.mono a1) a3 a4)
      · rename_i hL
        simp only at hL
        split at hb
        · rename_i L hd
          simp only at hd
          simp only
          exact fin L (den_ok hcall hd (hg.mono a1) a3 a4)
        · exact absurd rfl hb
    · exact hcall f vs h ρ w xs hb hg hr t
  · exact hcall f vs h ρ w xs hb hg hr t

/-- a list of facts, each found by a run -/
theorem memoOf_ok {gl : Nat → Option (List V)} {call : CallF} (hcall : CallOk θ P gl call) : ∀ {l : List Fact1}, (∀ x ∈ l, ∃ rs, den call rs x.f x.args = some x.res) → MemoOk θ P gl (memoOf l)
  | [], _ => fun _ _ _ _ _ _ _ h => by cases h
  | x :: l, hl => fun f args L ρ h w xs hm hg hr t => by
    simp only [memoOf, bsel_eq] at hm
    split at hm
    · rename_i he
      rw [band_eq, Bool.and_eq_true, nbeq_iff, decide_eq_true_iff] at he
      obtain ⟨rfl, he⟩ := he
      injection hm with hm; subst hm
      obtain ⟨rs, hd⟩ := hl x List.mem_cons_self
      rw [vEqs_eq he] at hd
      exact den_ok hcall hd hg hr t
    · exact memoOf_ok hcall (fun y hy => hl y (List.mem_cons_of_mem _ hy)) f args L ρ h w xs hm hg hr t
end Go.Ev
end
