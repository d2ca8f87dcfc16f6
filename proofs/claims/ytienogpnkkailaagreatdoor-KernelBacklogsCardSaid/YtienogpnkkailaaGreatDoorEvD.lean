import Derived.Test.YtienogpnkkailaaGreatDoorEvC
import Derived.Lib.Bytealg
section
set_option autoImplicit false
namespace Go.Ev
variable {θ : Nat → Int} {P : Program} {ρ : Ro} {h : Heap} {w : World}

/-! ### maps -/
theorem keyKind_spec {t : TypeId} {kk : Nat} (hk : keyKind P t = some kk) : (kk = 1 ∧ ∃ i, P.underlying t = some (.int i)) ∨ (kk = 2 ∧ P.underlying t = some .string) := by
  unfold keyKind at hk
  split at hk
  · rename_i i hu; injection hk with hk; exact .inl ⟨hk.symm, i, hu⟩
  · rename_i hu; injection hk with hk; exact .inr ⟨hk.symm, hu⟩
  · cases hk
/-- a key's comparison in the abstract and in the model -/
theorem leaf_same {t : TypeId} {kk : Nat} (hk : keyKind P t = some kk) {u u' : V} {x x' : Value} {r : Bool} (hu : CRel θ ρ u x) (hu' : CRel θ ρ u' x')
    (h : leafEq kk u u' = some r) {d : TypeDesc} (hd : P.underlying t = some d) : Instr.sameNow d x x' = some r := by
  rcases keyKind_spec hk with ⟨rfl, i, hi⟩ | ⟨rfl, hi⟩
  · rw [hi] at hd; injection hd with hd; subst hd
    obtain ⟨k, m, n, rfl, rfl, e⟩ := leaf1 hu hu' h
    simp [Instr.sameNow, e]
  · rw [hi] at hd; injection hd with hd; subst hd
    cases u <;> simp only [leafEq, reduceCtorEq] at h
    rename_i n s
    cases u' <;> simp only [reduceCtorEq] at h
    rename_i m s'
    obtain ⟨hn, hs, rfl⟩ := hu
    obtain ⟨hm, hs', rfl⟩ := hu'
    have e := strEqN_sound hn hm hs hs' h
    simp only [Instr.sameNow, beq_toListBytes, strOf_toList, e]

theorem findME_cons (kk : Nat) (k : V) (e : ME) (l : List ME) : findME kk k (e :: l) = (match leafEq kk k e.key with
    | some true => some (some e.val)
    | some false => findME kk k l
    | none => none) := by
  have : findME kk k (e :: l) = Option.rec (motive := fun _ => Option (Option V)) none (fun b => Bool.rec (findME kk k l) (some (some e.val)) b) (leafEq kk k e.key) := rfl
  rw [this]; rcases leafEq kk k e.key with _ | b
  · rfl
  · cases b <;> rfl
theorem findME_ok {t : TypeId} {kk : Nat} (hk : keyKind P t = some kk) {d : TypeDesc} (hd : P.underlying t = some d) {k : V} {x : Value} (hx : CRel θ ρ k x) :
    ∀ {l : List ME} {xs : List MapEntry} {r : Option V} (i : Nat), All2 (MRel θ ρ) l xs → findME kk k l = some r →
      (r = none ∧ Instr.findNow d x xs i = some none) ∨ ∃ v y j, r = some v ∧ Instr.findNow d x xs i = some (some (j, y)) ∧ ARel θ ρ v y
  | [], _, r, i, t, h => by
    cases t
    have : some none = some r := h
    injection this with this; subst this
    exact .inl ⟨rfl, rfl⟩
  | e :: l, _, r, i, t, h => by
    cases t with
    | cons he t =>
      rw [findME_cons] at h
      cases hl : leafEq kk k e.key with
      | none => rw [hl] at h; cases h
      | some b =>
        rw [hl] at h
        have hs := leaf_same hk hx he.1 hl hd
        cases b with
        | true =>
          injection h with h; subst h
          exact .inr ⟨_, _, i, rfl, by simp only [Instr.findNow, hs], he.2.1⟩
        | false =>
          rcases findME_ok hk hd hx (i + 1) t h with ⟨rfl, h2⟩ | ⟨v, y, j, rfl, h2, h3⟩
          · exact .inl ⟨rfl, by simp only [Instr.findNow, hs]; exact h2⟩
          · exact .inr ⟨v, y, j, rfl, by simp only [Instr.findNow, hs]; exact h2, h3⟩

theorem checkKey_run {t : TypeId} {kk : Nat} (hk : keyKind P t = some kk) {u : V} {x : Value} (hu : CRel θ ρ u x) (hok : keyOk kk u = true) (b : Bool) :
    (Instr.checkKey b 10000 t x).run P w = .ok () w := by
  have key : ∀ n, (Instr.checkKey b (n + 1) t x).run P w = .ok () w := fun n => by
    rcases keyKind_spec hk with ⟨rfl, i, hi⟩ | ⟨rfl, hi⟩
    · unfold keyOk at hok
      split at hok
      · obtain rfl : x = _ := hu
        simp only [Instr.checkKey, Sem.run_bind, run_underlying hi, Result.andThen_ok, Sem.run_pure]
      · cases hok
      · cases hok
    · unfold keyOk at hok
      split at hok
      · cases hok
      · obtain ⟨_, _, rfl⟩ := hu
        simp only [Instr.checkKey, Sem.run_bind, run_underlying hi, Result.andThen_ok, Sem.run_pure]
      · cases hok
  exact key 9999
theorem keyOk_crel {kk : Nat} {u : V} {x : Value} (hok : keyOk kk u = true) (h : VRel θ ρ u x) : CRel θ ρ u x := by
  cases u <;> first
    | exact h
    | cases hok

theorem zeroOf_spec {t : TypeId} {z : V} (hz : zeroOf P t = some z) : ∃ x, (zeroValue t).run P w = .ok x w ∧ ARel θ ρ z x ∧ ∃ i, P.info? t = some i ∧ i.zero = some x := by
  unfold zeroOf at hz
  cases hi : P.info? t with
  | none => rw [hi] at hz; cases hz
  | some i =>
    rw [hi] at hz
    change (i.zero).bind absV = some z at hz
    cases hx : i.zero with
    | none => rw [hx] at hz; cases hz
    | some x =>
      rw [hx] at hz
      exact ⟨x, by simp [zeroValue, run_typeInfo hi, hx], absV_rel hz ρ, i, rfl, hx⟩

theorem run_findKey {t : TypeId} {x : Value} {xs : List MapEntry} {d : TypeDesc} {r : Option (Nat × Value)} (hd : P.underlying t = some d) (h : Instr.findNow d x xs 0 = some r) :
    (Instr.findKey t x xs).run P w = .ok r w := by
  simp only [Instr.findKey, Sem.run_bind, run_underlying hd, Result.andThen_ok, h, Sem.run_pure]

theorem lookup_ok {t kt et : TypeId} {kk : Nat} {z : V} {ok : Bool} {u k v : V} {x y : Value} (hu : P.underlying t = some (.map kt et)) (hk : keyKind P kt = some kk) (hz : zeroOf P et = some z)
    (hr : HRel θ ρ h w) (hx : VRel θ ρ u x) (hy : VRel θ ρ k y) (hv : lookupK kk z ok h u k = some v) :
    ∃ o, (Instr.lookup t x y ok).run P w = .ok o w ∧ VRel θ ρ v o := by
  obtain ⟨hok, hv⟩ := bsel_bad_opt hv
  have hyc := keyOk_crel hok hy
  obtain ⟨d, hd⟩ : ∃ d, P.underlying kt = some d := by
    rcases keyKind_spec hk with ⟨_, i, hi⟩ | ⟨_, hi⟩
    · exact ⟨_, hi⟩
    · exact ⟨_, hi⟩
  obtain ⟨zx, hzr, hza, _⟩ := zeroOf_spec (w := w) (θ := θ) (ρ := ρ) hz
  have fin : ∀ (es : Array MapEntry) (l : List ME) (r : Option V), All2 (MRel θ ρ) l es.toList → findME kk k l = some r →
      (match r with
        | some v => some (bsel ok (.tup [v, .bool true]) v)
        | none => some (bsel ok (.tup [z, .bool false]) z)) = some v →
      (∃ o, Instr.findNow d y es.toList 0 = some o ∧ ((o = none ∧ VRel θ ρ v (if ok then .tuple #[zx, .bool false] else zx)) ∨
        ∃ j q, o = some (j, q) ∧ VRel θ ρ v (if ok then .tuple #[q, .bool true] else q))) := by
    intro es l r t hf he
    rcases findME_ok hk hd hyc 0 t hf with ⟨rfl, h2⟩ | ⟨q, o, j, rfl, h2, h3⟩
    · injection he with he; subst he
      refine ⟨_, h2, .inl ⟨rfl, ?_⟩⟩
      cases ok
      · exact arel_vrel hza
      · exact ⟨#[zx, .bool false], rfl, .cons hza (.cons rfl .nil)⟩
    · injection he with he; subst he
      refine ⟨_, h2, .inr ⟨j, o, rfl, ?_⟩⟩
      cases ok
      · exact arel_vrel h3
      · exact ⟨#[o, .bool true], rfl, .cons h3 (.cons rfl .nil)⟩
  have mapcase : ∀ b, u = .map b → ∃ o, (Instr.lookup t x y ok).run P w = .ok o w ∧ VRel θ ρ v o := by
    rintro b rfl
    obtain ⟨p, hp, rfl⟩ : ∃ p, ρ b = some p ∧ x = .map (some p.blk) := hx
    simp only [lookIn] at hv
    cases hb : h.get b with
    | none => rw [hb] at hv; cases hv
    | some ob =>
      rw [hb] at hv
      cases ob <;> simp only [reduceCtorEq] at hv
      rename_i es clock
      obtain ⟨p', hp', xs, hxs, t⟩ := hr.obj _ _ _ hb (by assumption)
      rw [hp] at hp'; injection hp' with hp'; subst hp'
      have hobj : (getObj p.blk).run P w = .ok (.map xs clock) w := by simp [getObj, Sem.run, hxs]
      cases hq : findME kk k es with
      | none => rw [hq] at hv; cases hv
      | some r =>
        rw [hq] at hv
        obtain ⟨o, h2, hc⟩ := fin xs es r t hq (by cases r <;> exact hv)
        rcases hc with ⟨rfl, hrel⟩ | ⟨j, q, rfl, hrel⟩
        · exact ⟨_, by simp only [Instr.lookup, Sem.run_bind, run_underlying hu, Result.andThen_ok, hobj, Sem.run_pure, checkKey_run hk hyc hok, run_findKey hd h2, hzr], hrel⟩
        · exact ⟨_, by simp only [Instr.lookup, Sem.run_bind, run_underlying hu, Result.andThen_ok, hobj, Sem.run_pure, checkKey_run hk hyc hok, run_findKey hd h2], hrel⟩
  cases u <;> first
    | exact mapcase _ rfl
    | skip
  all_goals simp only [lookIn, reduceCtorEq] at hv
  obtain rfl : x = .map none := hx
  obtain ⟨o, h2, hc⟩ := fin #[] [] none .nil rfl hv
  rcases hc with ⟨rfl, hrel⟩ | ⟨j, q, rfl, hrel⟩
  · exact ⟨_, by simp only [Instr.lookup, Sem.run_bind, run_underlying hu, Result.andThen_ok, Sem.run_pure, checkKey_run hk hyc hok, run_findKey hd h2, hzr], hrel⟩
  · cases h2

/-! ### the entry of a map's iterator -/
theorem findBorn_ok {n : Nat} : ∀ {l : List ME} {xs : List MapEntry} {e : ME}, All2 (MRel θ ρ) l xs → findBorn n l = some e → ∃ x, xs.find? (fun e => e.born == n) = some x ∧ MRel θ ρ e x
  | [], _, e, t, h => by cases h
  | a :: l, _, e, t, h => by
    cases t with
    | cons ha t =>
      rename_i x xs
      simp only [findBorn, bsel_eq, nbeq_iff] at h
      simp only [List.find?_cons]
      split at h
      · rename_i hb
        rw [decide_eq_true_iff] at hb
        injection h with h; subst h
        have : (x.born == n) = true := by rw [beq_iff_eq, ha.2.2, hb]
        rw [this]; exact ⟨x, rfl, ha⟩
      · rename_i hb
        rw [decide_eq_true_iff] at hb
        have : (x.born == n) = false := by rw [beq_eq_false_iff_ne, ha.2.2]; exact hb
        rw [this]; exact findBorn_ok t h
theorem run_getObj {q : Nat} {o : Obj} (hq : w.heap[q]? = some o) (hc : ∀ c e f, o ≠ .cells c e f) : (getObj q).run P w = .ok o w := by
  cases o <;> first
    | exact absurd rfl (hc _ _ _)
    | simp [getObj, Sem.run, hq]
theorem entry_ok {u v : V} {x : Value} (hr : HRel θ ρ h w) (hu : VRel θ ρ u x) (hv : entryA h u = some v) : ∃ o, (Instr.entry x).run P w = .ok o w ∧ VRel θ ρ v o := by
  unfold entryA at hv
  split at hv
  · rename_i b
    split at hv
    · rename_i m since stamp seen stepped hb
      split at hv
      · rename_i es clock hm
        obtain ⟨h1, hv⟩ := bsel_bad_opt hv
        rw [nbeq_iff, decide_eq_true_iff] at h1
        split at hv
        · rename_i e he
          injection hv with hv; subst hv
          obtain ⟨p, hp, rfl⟩ := vrel_ptr hu
          obtain ⟨p', hp', hbase, q, hq, hit⟩ := hr.obj _ _ _ hb (by assumption)
          rw [hp] at hp'; injection hp' with hp'; subst hp'
          obtain ⟨q', hq', xs, hxs, t⟩ := hr.obj _ _ _ hm (by assumption)
          rw [hq] at hq'; injection hq' with hq'; subst hq'
          obtain ⟨y, hy, hm1, hm2, hm3⟩ := findBorn_ok t he
          refine ⟨.tuple #[y.key, y.val], ?_, #[y.key, y.val], rfl, .cons (crel_arel hm1) (.cons hm2 .nil)⟩
          have e1 := run_getObj (P := P) hit (by simp)
          have e2 := run_getObj (P := P) hxs (by simp)
          have e3 : xs.find? (fun e => e.born == stamp) = some y := by rw [← Array.find?_toList]; exact hy
          simp only [hbase, Nat.add_zero, Instr.entry, Sem.run_bind, e1, Result.andThen_ok]
          simp [e2, h1, e3]
        · cases hv
      · cases hv
    · cases hv
  · cases hv
end Go.Ev
end

section
set_option autoImplicit false
namespace Go.Ev
variable {θ : Nat → Int} {P : Program} {ρ : Ro} {h : Heap} {w : World}

/-! ### the parts of a struct, an array or a slice -/
theorem wr_eq {c : List V} {len off n : Nat} {vs cs : List V} (hl : c.length = len) (hn : vs.length = n) (h : wr c len off n vs = some cs) :
    off + n ≤ len ∧ cs = c.take off ++ (vs ++ c.drop (off + n)) := by
  obtain ⟨h1, h2⟩ := bsel_bad_opt h
  rw [nble_iff, decide_eq_true_iff] at h1
  refine ⟨h1, ?_⟩
  injection h2 with h2
  rw [← h2, bsel_eq, wrV_eq _ _ _ _ (by omega)]
  split
  · rename_i hb
    simp [nbeq_iff] at hb
    rw [hb.1, hb.2.symm] at *
    rw [List.take_zero, List.nil_append, List.drop_of_length_le (by omega), List.append_nil]
  · rfl
theorem foldl_set (v : Array Value) : ∀ (l : List Value) (k off : Nat) (cs : Array Value), off + k + l.length ≤ cs.size →
    ((l.zipIdx k).foldl (fun (a : Array Value) (x : Value × Nat) => a.setIfInBounds (off + x.2) x.1) cs).toList = cs.toList.take (off + k) ++ (l ++ cs.toList.drop (off + k + l.length))
  | [], k, off, cs, _ => by simp
  | x :: l, k, off, cs, h => by
    simp only [List.zipIdx_cons, List.foldl_cons]
    rw [foldl_set v l (k + 1) off _ (by simp at h ⊢; omega)]
    have hlt : off + k < cs.toList.length := by simp at h ⊢; omega
    simp only [Array.toList_setIfInBounds]
    rw [show off + (k + 1) = off + k + 1 by omega, List.take_succ_eq_append_getElem (by simpa using hlt)]
    rw [List.take_set_of_le (Nat.le_refl _), List.getElem_set_self, List.append_assoc, List.singleton_append, List.cons_append]
    rw [List.drop_set_of_lt (by omega)]
    simp [Nat.add_assoc, Nat.add_comm 1]
theorem fill_ok {len : Nat} {place place' : Nat → Option (Nat × Nat)} (hp : ∀ i r, place i = some r → place' i = some r) : ∀ {ps : List (Nat × V)} {qs : List (Nat × Value)} {cells : List V} {xs : Array Value} {cs : List V},
    All2 (fun (a : Nat × V) (b : Nat × Value) => a.1 = b.1 ∧ VRel θ ρ a.2 b.2) ps qs → cells.length = len → All2 (CRel θ ρ) cells xs.toList → fillA len place cells ps = some cs →
    ∃ ys, Instr.fill place' xs qs = some ys ∧ cs.length = len ∧ All2 (CRel θ ρ) cs ys.toList
  | [], _, cells, xs, cs, t, hl, hc, h => by
    cases t
    simp only [fillA, Option.some.injEq] at h; subst h
    exact ⟨xs, rfl, hl, hc⟩
  | (i, v) :: ps, _, cells, xs, cs, t, hl, hc, h => by
    cases t with
    | cons hv t =>
      rename_i b qs
      obtain ⟨j, y⟩ := b
      obtain ⟨rfl, hv⟩ := hv
      simp only [fillA] at h
      split at h
      · cases h
      · rename_i off size hpl
        split at h
        · cases h
        · rename_i m vs hcv
          obtain ⟨h1, h2⟩ := bsel_bad_opt h
          rw [nbeq_iff, decide_eq_true_iff] at h1; subst h1
          split at h2
          · rename_i cells' hw
            obtain ⟨hm, hvr⟩ := cellsOfV_rel hcv hv
            obtain ⟨hle, rfl⟩ := wr_eq hl hm hw
            have hys : y.cells.size = m := by rw [← hm, hvr.length]; simp
            have hxs : xs.size = len := by rw [← hl, hc.length]; simp
            simp only [Instr.fill, hp _ _ hpl]
            have hcond : ¬ ((decide (y.cells.size ≠ m) || decide (off + y.cells.size > xs.size)) = true) := by simp; omega
            have hset := foldl_set #[] y.cells.toList 0 off xs (by simp; omega)
            have harr : (y.cells.zipIdx.foldl (fun (cs : Array Value) (x : Value × Nat) => cs.setIfInBounds (off + x.2) x.1) xs).toList = xs.toList.take off ++ (y.cells.toList ++ xs.toList.drop (off + m)) := by
              rw [← Array.foldl_toList, Array.toList_zipIdx]
              rw [hset]; simp [hys]
            obtain ⟨ys, e1, e2, e3⟩ := fill_ok (len := len) hp (xs := y.cells.zipIdx.foldl (fun (cs : Array Value) (x : Value × Nat) => cs.setIfInBounds (off + x.2) x.1) xs) t
              (by simp; omega) (by rw [harr]; exact (hc.take off).append (hvr.append (hc.drop (off + m)))) h2
            refine ⟨ys, ?_, e2, e3⟩
            rw [if_neg (by simpa using hcond)]
            exact e1
          · cases h2

section
variable {c : Cx} {env : List V} {tm : PT V} {a : Act}
theorem evParts_ok : ∀ {ps : List (Nat × Operand)} {vs : List (Nat × V)}, GOk θ c.gl ρ → (∀ t, Operand.tmp t ∈ ps.map (·.2) → TRel θ ρ c env tm a t) → evParts (pfs c ps) env tm = some vs →
    All2 (fun (a : Nat × V) (b : Nat × Value) => a.1 = b.1 ∧ VRel θ ρ a.2 b.2) vs (ps.map fun x => (x.1, a.eval x.2))
  | [], vs, _, _, h => by simp only [pfs, evParts, Option.some.injEq] at h; subst h; exact .nil
  | (i, x) :: ps, vs, hg, ht, h => by
    simp only [pfs, evParts] at h
    split at h
    · rename_i y hy
      split at h
      · rename_i ys hys
        injection h with h; subst h
        exact .cons ⟨rfl, opd_sound hg (fun t e => ht t (by have e' : x = Operand.tmp t := e; rw [← e']; simp)) hy⟩ (evParts_ok hg (fun t hm => ht t (by simp at hm ⊢; exact .inr hm)) hys)
      · cases h
    · cases h
end

theorem mapM_sizes : ∀ (l : List Field), (∀ f ∈ l, ∃ n, szOf P f.type = some n) →
    (l.mapM (m := Sem) fun f => do pure (f.offset, ← sizeOf f.type)).run P w = .ok (l.map fun f => (f.offset, P.cellsOf f.type)) w
  | [], _ => by simp
  | f :: l, h => by
    obtain ⟨n, hn⟩ := h f List.mem_cons_self
    obtain ⟨i, hi, hc⟩ := szOf_info hn
    simp only [List.mapM_cons, Sem.run_bind, run_sizeOf hn, Result.andThen_ok, Sem.run_pure, mapM_sizes l fun g hg => h g (List.mem_cons_of_mem _ hg), List.map_cons, hc]

theorem zero_agg {t : TypeId} {n : Nat} {z : List V} (hz : zeroOf P t = some (.agg n z)) : ∃ xs, (zeroValue t).run P w = .ok (.agg xs) w ∧ z.length = n ∧ All2 (CRel θ ρ) z xs.toList := by
  obtain ⟨x, h1, h2, _⟩ := zeroOf_spec (w := w) (θ := θ) (ρ := ρ) hz
  obtain ⟨hl, xs, rfl, ht⟩ := h2
  exact ⟨xs, h1, hl, ht⟩

section
variable {c : Cx} {env : List V} {tm : PT V} {a : Act}
theorem buildS_ok {t : TypeId} {n : Nat} {z : List V} {fs : Array Field} {ps : List (Nat × Operand)} {v : V} (hz : zeroOf P t = some (.agg n z)) (hu : P.underlying t = some (.struct fs))
    (hall : (fs.toList.all fun f => (szOf P f.type).isSome) = true) (hg : GOk θ c.gl ρ) (ht : ∀ t, Operand.tmp t ∈ ps.map (·.2) → TRel θ ρ c env tm a t)
    (hv : tBuild n z (structPlace P fs) (pfs c ps) env tm h = some v) : ∃ y, (Instr.build t (ps.map fun x => (x.1, a.eval x.2)).toArray).run P w = .ok y w ∧ VRel θ ρ v y := by
  unfold tBuild at hv
  split at hv
  · rename_i vs hvs
    split at hv
    · rename_i cs hcs
      injection hv with hv; subst hv
      obtain ⟨xs, h1, h2, h3⟩ := zero_agg (w := w) (θ := θ) (ρ := ρ) hz
      have hsz : ∀ f ∈ fs.toList, ∃ n, szOf P f.type = some n := fun f hf => by
        have := List.all_eq_true.1 hall f hf
        cases e : szOf P f.type with
        | none => rw [e] at this; cases this
        | some n => exact ⟨n, rfl⟩
      obtain ⟨ys, e1, e2, e3⟩ := fill_ok (θ := θ) (ρ := ρ) (place' := fun i => ((fs.toList.map fun f => (f.offset, P.cellsOf f.type)).toArray)[i]?) (fun i r hr => by
        unfold structPlace at hr
        split at hr
        · rename_i f hf
          split at hr
          · rename_i m hm
            injection hr with hr; subst hr
            obtain ⟨_, _, hc⟩ := szOf_info hm
            rw [← Array.getElem?_toList] at hf
            simp [hf, hc]
          · cases hr
        · cases hr) (evParts_ok hg ht hvs) h2 h3 hcs
      refine ⟨.agg ys, ?_, e2, ys, rfl, e3⟩
      simp only [Instr.build, Sem.run_bind, h1, Result.andThen_ok, run_underlying hu, Value.cells, Array.mapM_eq_mapM_toList, Sem.run_map, mapM_sizes _ hsz]
      simp only [e1]
      rfl
    · cases hv
  · cases hv
theorem buildA_ok {t e : TypeId} {n m s : Nat} {z : List V} {ps : List (Nat × Operand)} {v : V} (hz : zeroOf P t = some (.agg n z)) (hu : P.underlying t = some (.array m e)) (hs : szOf P e = some s)
    (hg : GOk θ c.gl ρ) (ht : ∀ t, Operand.tmp t ∈ ps.map (·.2) → TRel θ ρ c env tm a t)
    (hv : tBuild n z (elemPlace s) (pfs c ps) env tm h = some v) : ∃ y, (Instr.build t (ps.map fun x => (x.1, a.eval x.2)).toArray).run P w = .ok y w ∧ VRel θ ρ v y := by
  unfold tBuild at hv
  split at hv
  · rename_i vs hvs
    split at hv
    · rename_i cs hcs
      injection hv with hv; subst hv
      obtain ⟨xs, h1, h2, h3⟩ := zero_agg (w := w) (θ := θ) (ρ := ρ) hz
      obtain ⟨ys, e1, e2, e3⟩ := fill_ok (θ := θ) (ρ := ρ) (place' := fun i => some (i * s, s)) (fun i r hr => hr) (evParts_ok hg ht hvs) h2 h3 hcs
      refine ⟨.agg ys, ?_, e2, ys, rfl, e3⟩
      simp only [Instr.build, Sem.run_bind, h1, Result.andThen_ok, run_underlying hu, Value.cells, run_sizeOf hs]
      simp only [e1]
      rfl
    · cases hv
  · cases hv

theorem makeCaps_ok : ∀ {vs : List V} {xs : List Value} {cs : List (Nat × Nat)}, All2 (VRel θ ρ) vs xs → makeCaps vs = some cs → All2 (PRel ρ) cs xs
  | [], _, cs, t, h => by cases t; simp only [makeCaps, Option.some.injEq] at h; subst h; exact .nil
  | v :: vs, _, cs, t, h => by
    cases t with
    | cons hv t =>
      cases v <;> simp only [makeCaps, reduceCtorEq] at h
      split at h
      · rename_i l hl
        injection h with h; subst h
        exact .cons hv (makeCaps_ok t hl)
      · cases h
end

/-! ### builtins that only read -/
def LtOk (θ : Nat → Int) (P : Program) (ρ : Ro) (h : Heap) (w : World) (f : LT) (s : Array Value → Sem Value) : Prop :=
  ∀ vs v (xs : List Value), All2 (VRel θ ρ) vs xs → f h vs = some v → ∃ y, (s xs.toArray).run P w = .ok y w ∧ VRel θ ρ v y

theorem foldInt_ok {f : Int → Int → Int} {g : Value → Value → Sem Value} (hg : ∀ k x y, g (.int k x) (.int k y) = pure (.int k (f x y))) : ∀ {r : List V} {xs : List Value} {k : IntKind} {acc : Int} {v : V},
    All2 (VRel θ ρ) r xs → foldInt f k acc r = some v → ∃ y, (xs.foldlM g (.int k acc)).run P w = .ok y w ∧ VRel θ ρ v y
  | [], _, k, acc, v, t, h => by cases t; simp only [foldInt, Option.some.injEq] at h; subst h; exact ⟨.int k acc, rfl, rfl⟩
  | u :: r, _, k, acc, v, t, h => by
    cases t with
    | cons hu t =>
      cases u <;> simp only [foldInt, reduceCtorEq] at h
      rename_i j n
      obtain ⟨h1, h2⟩ := bsel_bad_opt h
      rw [kindEq_iff, decide_eq_true_iff] at h1; subst h1
      obtain rfl := vrel_int hu
      simp only [List.foldlM_cons, hg, pure_bind]
      exact foldInt_ok hg t h2

theorem foldS_ok {f : SE → SE → Option SE} {g : Value → Value → Sem Value} (hg : ∀ (k : IntKind) (a b c : SE), a.Ok θ → b.Ok θ → f a b = some c → c.Ok θ ∧ g (.int k (a.eval θ)) (.int k (b.eval θ)) = pure (.int k (c.eval θ))) :
    ∀ {r : List V} {xs : List Value} {k : IntKind} {acc : SE} {v : V},
    All2 (VRel θ ρ) r xs → acc.Ok θ → foldS f k acc r = some v → ∃ y, (xs.foldlM g (.int k (acc.eval θ))).run P w = .ok y w ∧ VRel θ ρ v y
  | [], _, k, acc, v, t, ha, h => by
    cases t
    obtain ⟨_, h2⟩ := mkS_ok (ρ := ρ) ha h
    exact ⟨_, rfl, h2⟩
  | u :: r, _, k, acc, v, t, ha, h => by
    cases t with
    | cons hu t =>
      simp only [foldS] at h
      split at h
      · rename_i j b hj
        obtain ⟨h1, h2⟩ := bsel_bad_opt h
        rw [kindEq_iff, decide_eq_true_iff] at h1; subst h1
        obtain ⟨hb, rfl⟩ := toS_rel hj hu
        split at h2
        · rename_i c hc
          obtain ⟨h3, h4⟩ := hg k acc b c ha hb hc
          simp only [List.foldlM_cons, h4, pure_bind]
          exact foldS_ok hg t h3 h2
        · cases h2
      · cases h
theorem maxS_ok (k : IntKind) (a b c : SE) (ha : a.Ok θ) (hb : b.Ok θ) (h : maxS a b = some c) : c.Ok θ ∧ Builtin.max2 (.int k (a.eval θ)) (.int k (b.eval θ)) = pure (.int k (c.eval θ)) := by
  unfold maxS at h
  split at h
  · rename_i hl
    injection h with h; subst h
    have := of_decide_eq_true (seLt_ok ha hb hl)
    exact ⟨hb, by simp only [Builtin.max2, this, if_true]⟩
  · rename_i hl
    injection h with h; subst h
    have := of_decide_eq_false (seLt_ok ha hb hl)
    exact ⟨ha, by simp only [Builtin.max2, this, if_false]⟩
  · cases h
theorem minS_ok (k : IntKind) (a b c : SE) (ha : a.Ok θ) (hb : b.Ok θ) (h : minS a b = some c) : c.Ok θ ∧ Builtin.min2 (.int k (a.eval θ)) (.int k (b.eval θ)) = pure (.int k (c.eval θ)) := by
  unfold minS at h
  split at h
  · rename_i hl
    injection h with h; subst h
    have := of_decide_eq_true (seLt_ok hb ha hl)
    exact ⟨hb, by simp only [Builtin.min2, this, if_true]⟩
  · rename_i hl
    injection h with h; subst h
    have := of_decide_eq_false (seLt_ok hb ha hl)
    exact ⟨ha, by simp only [Builtin.min2, this, if_false]⟩
  · cases h
theorem builtinT_ok {b : Builtin} {ts : Array TypeId} {t0 : TypeId} {cs : Array Bool} {f : LT} (hf : builtinT P b ts = .mk f) (hr : HRel θ ρ h w) {vs : List V} {xs : List Value} {v : V}
    (t : All2 (VRel θ ρ) vs xs) (hv : f h vs = some v) : ∃ y, (builtin b ts t0 cs xs.toArray).run P w = .ok (.value y) w ∧ VRel θ ρ v y := by
  have fin : ∀ {s : Sem Value} {y : Value}, s.run P w = .ok y w → (do pure (Next.value (← s)) : Sem Next).run P w = .ok (.value y) w := fun {s y} hs => by simp [hs]
  unfold builtinT at hf
  split at hf
  · cases hf
  · rename_i t1 ht1
    split at hf
    · split at hf
      · rename_i hu
        injection hf with hf; subst hf
        unfold lenStr at hv
        split at hv
        · rename_i n s
          injection hv with hv; subst hv
          cases t with
          | cons hs t => cases t with
            | nil =>
              obtain ⟨hn, _, rfl⟩ := vrel_str hs
              exact ⟨.int .i64 n, fin (by simp [Builtin.len_, ht1, run_underlying hu, strOf_size, hn, goInt]), rfl⟩
        · cases hv
      · rename_i n e hu
        injection hf with hf; subst hf
        unfold lenArr at hv
        split at hv
        · injection hv with hv; subst hv
          cases t with
          | cons hs t => cases t with
            | nil => exact ⟨.int .i64 n, fin (by simp [Builtin.len_, ht1, run_underlying hu, goInt]), rfl⟩
        · cases hv
      · rename_i e hu
        injection hf with hf; subst hf
        unfold lenSl at hv
        split at hv
        · rename_i b off n cap
          injection hv with hv; subst hv
          cases t with
          | cons hs t => cases t with
            | nil =>
              obtain ⟨p, hp, rfl⟩ := vrel_slice hs
              exact ⟨.int .i64 n, fin (by simp [Builtin.len_, ht1, run_underlying hu, goInt]), rfl⟩
        · rename_i l n
          injection hv with hv; subst hv
          cases t with
          | cons hs t => cases t with
            | nil =>
              obtain ⟨q, o, cap, c, rfl, _⟩ := crel_fz hs
              exact ⟨.int .i64 n, fin (by simp [Builtin.len_, ht1, run_underlying hu, goInt]), rfl⟩
        · injection hv with hv; subst hv
          cases t with
          | cons hs t => cases t with
            | nil =>
              obtain rfl : _ = Value.slice none 0 0 := hs
              exact ⟨.int .i64 0, fin (by simp [Builtin.len_, ht1, run_underlying hu, goInt]), rfl⟩
        · injection hv with hv; subst hv
          cases t with
          | cons hs t => cases t with
            | nil =>
              obtain ⟨a, rfl⟩ : ∃ a, _ = Value.slice (some a) 0 0 := hs
              exact ⟨.int .i64 0, fin (by simp [Builtin.len_, ht1, run_underlying hu, goInt]), rfl⟩
        · rename_i len idx u
          cases t with
          | cons hs t => cases t with
            | nil =>
              rename_i x
              have hs0 : ZRel θ ρ.fz (.ord len idx u) x := hs
              simp only [ZRel] at hs0
              obtain ⟨hlen, _, hx⟩ := hs0
              obtain ⟨h3, h4⟩ := mkS_ok (ρ := ρ) hlen hv
              refine ⟨_, ?_, h4⟩
              rcases hx with ⟨h0, rfl⟩ | ⟨q, o, m, cap, c, rfl, hm, _⟩
              · exact fin (by simp [Builtin.len_, ht1, run_underlying hu, goInt, h0])
              · exact fin (by simp [Builtin.len_, ht1, run_underlying hu, goInt, hm])
        · cases hv
      · rename_i k e hu
        injection hf with hf; subst hf
        unfold lenMap at hv
        split at hv
        · injection hv with hv; subst hv
          cases t with
          | cons hs t => cases t with
            | nil =>
              obtain rfl : _ = Value.map none := hs
              exact ⟨.int .i64 0, fin (by simp [Builtin.len_, ht1, run_underlying hu, goInt]), rfl⟩
        · rename_i b
          split at hv
          · rename_i es clock hb
            injection hv with hv; subst hv
            cases t with
            | cons hs t => cases t with
              | nil =>
                obtain ⟨p, hp, rfl⟩ : ∃ p, ρ b = some p ∧ _ = Value.map (some p.blk) := hs
                obtain ⟨p', hp', xs, hxs, tt⟩ := hr.obj _ _ _ hb (by assumption)
                rw [hp] at hp'; injection hp' with hp'; subst hp'
                have e2 := run_getObj (P := P) hxs (by simp)
                have e3 : xs.size = es.length := by rw [tt.length]; simp
                exact ⟨.int .i64 es.length, fin (by simp [Builtin.len_, ht1, run_underlying hu, goInt, e2, e3]), rfl⟩
          · cases hv
        · cases hv
      · cases hf
    · split at hf
      · rename_i e hu
        injection hf with hf; subst hf
        unfold capSl at hv
        split at hv
        · rename_i b off n c
          injection hv with hv; subst hv
          cases t with
          | cons hs t => cases t with
            | nil =>
              obtain ⟨p, hp, rfl⟩ := vrel_slice hs
              exact ⟨.int .i64 c, fin (by simp [Builtin.cap_, ht1, run_underlying hu, goInt, ACap.of]), rfl⟩
        · injection hv with hv; subst hv
          cases t with
          | cons hs t => cases t with
            | nil =>
              obtain rfl : _ = Value.slice none 0 0 := hs
              exact ⟨.int .i64 0, fin (by simp [Builtin.cap_, ht1, run_underlying hu, goInt]), rfl⟩
        · injection hv with hv; subst hv
          cases t with
          | cons hs t => cases t with
            | nil =>
              obtain ⟨a, rfl⟩ : ∃ a, _ = Value.slice (some a) 0 0 := hs
              exact ⟨.int .i64 0, fin (by simp [Builtin.cap_, ht1, run_underlying hu, goInt]), rfl⟩
        · cases hv
      · cases hf
    · injection hf with hf; subst hf
      unfold orT at hv
      split at hv
      · rename_i v' hv'
        injection hv with hv; subst hv
        unfold maxB at hv'
        split at hv'
        · rename_i k a r
          cases t with
          | cons hs t =>
            obtain rfl := vrel_int hs
            obtain ⟨y, hy, hrel⟩ := foldInt_ok (P := P) (w := w) (g := Builtin.max2) (fun k x y => by simp only [Builtin.max2, bsel_eq, intLt_eq, decide_eq_true_eq]) t hv'
            exact ⟨y, fin (by simpa [Builtin.max_] using hy), hrel⟩
        · cases hv'
      · unfold maxSB at hv
        split at hv
        · rename_i u r
          split at hv
          · rename_i k e hk
            cases t with
            | cons hs t =>
              obtain ⟨he, rfl⟩ := toS_rel hk hs
              obtain ⟨y, hy, hrel⟩ := foldS_ok (P := P) (w := w) (g := Builtin.max2) (f := maxS) (maxS_ok) t he hv
              exact ⟨y, fin (by simpa [Builtin.max_] using hy), hrel⟩
          · cases hv
        · cases hv
    · injection hf with hf; subst hf
      unfold orT at hv
      split at hv
      · rename_i v' hv'
        injection hv with hv; subst hv
        unfold maxB at hv'
        split at hv'
        · rename_i k a r
          cases t with
          | cons hs t =>
            obtain rfl := vrel_int hs
            obtain ⟨y, hy, hrel⟩ := foldInt_ok (P := P) (w := w) (g := Builtin.min2) (fun k x y => by simp only [Builtin.min2, bsel_eq, intLt_eq, decide_eq_true_eq]) t hv'
            exact ⟨y, fin (by simpa [Builtin.min_] using hy), hrel⟩
        · cases hv'
      · unfold maxSB at hv
        split at hv
        · rename_i u r
          split at hv
          · rename_i k e hk
            cases t with
            | cons hs t =>
              obtain ⟨he, rfl⟩ := toS_rel hk hs
              obtain ⟨y, hy, hrel⟩ := foldS_ok (P := P) (w := w) (g := Builtin.min2) (f := minS) (minS_ok) t he hv
              exact ⟨y, fin (by simpa [Builtin.min_] using hy), hrel⟩
          · cases hv
        · cases hv
    · cases hf
end Go.Ev
end

section
set_option autoImplicit false
namespace Go.Ev
variable {θ : Nat → Int} {P : Program} {ρ : Ro} {h : Heap} {w : World}

/-! ### functions without a body -/
/-- For every function that has the name of one of the three: the model's tables give that entry. -/
def ExtOk (P : Program) : Prop := ∀ (f : FuncId) (fn : Func) (g : LT), P.funcs[f]? = some fn → fn.body = none → extF P fn = .mk g →
  (fn.name == "runtime.NumGoroutine") = false ∧ Extern.findNext fn = none ∧
    ((fn.name = "internal/bytealg.CountString" ∧ Extern.find fn = some Extern.BytealgCount.count) ∨
     (fn.name = "internal/bytealg.IndexByteString" ∧ Extern.find fn = some Extern.BytealgIndexByte.indexByte) ∨
     (fn.origin = "slices.overlaps" ∧ fn.name ≠ "internal/bytealg.CountString" ∧ fn.name ≠ "internal/bytealg.IndexByteString" ∧
        Extern.find fn = some (Extern.SlicesOverlaps.overlaps fn.params fn.resultTypes)))

theorem lits_all {s : List V} (hs : ∀ u ∈ s, ByteOk θ u) (h : s.all isLit = true) : ∀ u ∈ s, ∃ n, u = .int .u8 n ∧ 0 ≤ n ∧ n < 256 := by
  intro u hu
  have h1 := List.all_eq_true.1 h u hu
  have h2 := hs u hu
  unfold isLit at h1
  split at h1
  · exact ⟨_, rfl, h2⟩
  · cases h1

theorem byte_eq {n c : Int} (hn : 0 ≤ n ∧ n < 256) (hc : 0 ≤ c ∧ c < 256) : (UInt8.ofNat n.toNat == UInt8.ofNat c.toNat) = intEq n c :=
  byteV_eq (θ := fun _ => 0) (u := .int .u8 n) (v := .int .u8 c) hn hc rfl rfl

theorem count_ok {c : Int} (hc : 0 ≤ c ∧ c < 256) : ∀ {s : List V}, (∀ u ∈ s, ∃ n, u = .int .u8 n ∧ 0 ≤ n ∧ n < 256) →
    (s.map (byteV θ)).count (UInt8.ofNat c.toNat) = countI c s
  | [], _ => rfl
  | u :: s, hs => by
    obtain ⟨n, rfl, hn⟩ := hs u (by simp)
    have e : (byteV θ (.int .u8 n) == UInt8.ofNat c.toNat) = intEq n c := byte_eq hn hc
    simp only [List.map_cons, List.count_cons, e, countI, bsel_eq]
    rw [count_ok hc fun u hu => hs u (by simp [hu])]
    split <;> rfl

theorem idx_ok {c : Int} (hc : 0 ≤ c ∧ c < 256) : ∀ {s : List V} (k : Nat), (∀ u ∈ s, ∃ n, u = .int .u8 n ∧ 0 ≤ n ∧ n < 256) →
    idxI c k s = match (s.map (byteV θ)).findIdx? (fun x => x == UInt8.ofNat c.toNat) with
      | some i => ((k + i : Nat) : Int)
      | none => -1
  | [], k, _ => rfl
  | u :: s, k, hs => by
    obtain ⟨n, rfl, hn⟩ := hs u (by simp)
    have e : (byteV θ (.int .u8 n) == UInt8.ofNat c.toNat) = intEq n c := byte_eq hn hc
    simp only [List.map_cons, List.findIdx?_cons, e, idxI, bsel_eq]
    split
    · simp
    · rw [idx_ok hc (k + 1) fun u hu => hs u (by simp [hu])]
      cases (s.map (byteV θ)).findIdx? (fun x => x == UInt8.ofNat c.toNat) with
      | none => rfl
      | some i => simp only [Option.map_some]; congr 1; omega

theorem find_range' (p : UInt8 → Bool) : ∀ (l : List UInt8) (k : Nat) (g : Nat → UInt8), (∀ i x, l[i]? = some x → g (k + i) = x) →
    (List.range' k l.length).find? (fun i => p (g i)) = (l.findIdx? p).map (k + ·)
  | [], _, _, _ => rfl
  | x :: l, k, g, hg => by
    have h0 : g k = x := hg 0 x (by simp)
    simp only [List.length_cons, List.range'_succ, List.find?_cons, h0, List.findIdx?_cons]
    cases hp : p x
    · simp only [Bool.false_eq_true, if_false]
      rw [find_range' p l (k + 1) g fun i y hi => by
        have := hg (i + 1) y (by simpa using hi)
        rw [show k + 1 + i = k + (i + 1) by omega, this]]
      cases l.findIdx? p with
      | none => rfl
      | some i => simp only [Option.map_some]; congr 1; omega
    · simp

theorem bytes_len (b : ByteArray) : b.size = b.data.toList.length := (Array.length_toList (xs := b.data)).symm
theorem bytes_bang (b : ByteArray) (i : Nat) (x : UInt8) (h : b.data.toList[i]? = some x) : b[i]! = x := by
  obtain ⟨hi, hx⟩ := List.getElem?_eq_some_iff.1 h
  have hi' : i < b.size := by rw [bytes_len]; exact hi
  rw [getElem!_pos b i hi']
  exact hx

theorem find_range (b : ByteArray) (p : UInt8 → Bool) : (List.range b.size).find? (fun i => p b[i]!) = b.data.toList.findIdx? p := by
  rw [bytes_len, List.range_eq_range']
  have := find_range' p b.data.toList 0 (fun i => b[i]!) (fun i x hx => by rw [Nat.zero_add]; exact bytes_bang b i x hx)
  rw [this]
  cases b.data.toList.findIdx? p <;> simp

theorem elemOfSlice_spec {t e : TypeId} (h : elemOfSlice P t = some e) : P.underlying t = some (.slice e) := by
  unfold elemOfSlice at h
  split at h
  · rename_i x hx; injection h with h; subst h; exact hx
  · cases h

theorem run_noView {q : Nat} {c : Array Value} {e : TypeId} {fr : Nat × Nat} (hq : w.heap[q]? = some (.cells c e fr)) (o : Nat) : (noView ⟨q, o, none⟩).run P w = .ok () w := by
  simp [noView, viewAt, shape, Sem.run, shape_of hq]
theorem run_stringish {q : Nat} {c : Array Value} {e : TypeId} {fr : Nat × Nat} (hq : w.heap[q]? = some (.cells c e fr)) (hf : noFreeze fr) (o : Nat) : (stringish ⟨q, o, none⟩).run P w = .ok false w := by
  simp [stringish, shape, frozen, Sem.run, shape_of hq, frozen_of hq hf]

theorem overlaps_eq (params rs : Array TypeId) (a b : Option Addr) (la ca lb cb : Nat) : Extern.SlicesOverlaps.overlaps params rs #[.slice a la ca, .slice b lb cb] = (do
    let some t := params[0]? | stuck "slices.overlaps: no parameter types"
    let .slice elem ← underlying t | stuck "slices.overlaps: slice type expected"
    let size ← sizeOf elem
    match a, b with
    | some a, some b =>
      if la = 0 ∨ lb = 0 ∨ size = 0 then pure (.bool false)
      else if a.block != b.block && (← frozen a) && (← frozen b) then unsupported .addressObserved
      else do
        if a.block != b.block then do
          noView a; noView b
          if ← mayBeOne a b then return .bool ((← choose (.extern "sameAddr.stringBytes" 2)) == 1)
        pure (.bool (a.block == b.block && a.off < b.off + lb * size && b.off < a.off + la * size))
    | _, _ => pure (.bool false)) := rfl

theorem extOver_ok {size : Nat} {params rs : Array TypeId} {t e : TypeId} (hp : params[0]? = some t) (he : elemOfSlice P t = some e) (hs : szOf P e = some size)
    (hr : HRel θ ρ h w) : LtOk θ P ρ h w (extOver size) (Extern.SlicesOverlaps.overlaps params rs) := by
  intro vs v xs tt hv
  unfold extOver at hv
  have hu := elemOfSlice_spec he
  split at hv
  · rename_i a oa la ca b ob lb cb
    cases tt with
    | cons h1 tt => cases tt with
      | cons h2 tt => cases tt with
        | nil =>
          obtain ⟨p, hpa, rfl⟩ := vrel_slice h1
          obtain ⟨q, hqb, rfl⟩ := vrel_slice h2
          rw [bsel_eq] at hv
          split at hv
          · rename_i hz
            injection hv with hv; subst hv
            have hz' : la = 0 ∨ lb = 0 ∨ size = 0 := by simpa [nbeq_iff, bor_eq] using hz
            exact ⟨.bool false, by simp [overlaps_eq, hp, run_underlying hu, run_sizeOf hs, hz'], rfl⟩
          · rename_i hz
            have hz' : ¬ (la = 0 ∨ lb = 0 ∨ size = 0) := by simpa [nbeq_iff, bor_eq] using hz
            rw [bsel_eq] at hv
            split at hv
            · rename_i hab
              have hab : a = b := by simpa [nbeq_iff] using hab
              subst hab
              rw [hpa] at hqb; injection hqb with hqb; subst hqb
              injection hv with hv; subst hv
              refine ⟨_, by simp [overlaps_eq, hp, run_underlying hu, run_sizeOf hs, hz']; rfl, ?_⟩
              simp only [band_eq, nblt_iff]
              change Value.bool _ = Value.bool _
              congr 2 <;> simp <;> omega
            · rename_i hab
              have hab : ¬ a = b := by simpa [nbeq_iff] using hab
              split at hv
              · rename_i ca1 la1 ta1 cb1 lb1 tb1 ga gb
                injection hv with hv; subst hv
                obtain ⟨p', e1, l1, c1, t1, f1, hc1, nf1, _⟩ := hr.obj _ _ _ ga (by assumption)
                obtain ⟨q', e2, l2, c2, t2, f2, hc2, nf2, _⟩ := hr.obj _ _ _ gb (by assumption)
                rw [hpa] at e1; injection e1 with e1; subst e1
                rw [hqb] at e2; injection e2 with e2; subst e2
                have hne : p.blk ≠ q.blk := fun e => hab (hr.inj _ _ _ _ _ _ ga gb hpa hqb e)
                have hne' : (p.blk == q.blk) = false := by simpa using hne
                have hfa : (frozen ⟨p.blk, p.base + oa, none⟩).run P w = .ok false w := by simp [frozen, Sem.run, frozen_of hc1 nf1]
                have hfb : (frozen ⟨q.blk, q.base + ob, none⟩).run P w = .ok false w := by simp [frozen, Sem.run, frozen_of hc2 nf2]
                refine ⟨.bool false, ?_, rfl⟩
                simp [overlaps_eq, hp, run_underlying hu, run_sizeOf hs, hz', hne, frozen, Sem.run, frozen_of hc1 nf1, frozen_of hc2 nf2, run_noView hc1, run_noView hc2, mayBeOne, run_stringish hc1 nf1, run_stringish hc2 nf2,
                  shape, Sem.run, shape_of hc2]
              · cases hv
  · rename_i b ob lb cb
    injection hv with hv; subst hv
    cases tt with
    | cons h1 tt => cases tt with
      | cons h2 tt => cases tt with
        | nil =>
          obtain rfl : _ = Value.slice none 0 0 := h1
          obtain ⟨q, hqb, rfl⟩ := vrel_slice h2
          exact ⟨.bool false, by simp [overlaps_eq, hp, run_underlying hu, run_sizeOf hs], rfl⟩
  · rename_i b ob lb cb
    injection hv with hv; subst hv
    cases tt with
    | cons h1 tt => cases tt with
      | cons h2 tt => cases tt with
        | nil =>
          obtain rfl : _ = Value.slice none 0 0 := h2
          obtain ⟨q, hqb, rfl⟩ := vrel_slice h1
          exact ⟨.bool false, by simp [overlaps_eq, hp, run_underlying hu, run_sizeOf hs], rfl⟩
  · injection hv with hv; subst hv
    cases tt with
    | cons h1 tt => cases tt with
      | cons h2 tt => cases tt with
        | nil =>
          obtain rfl : _ = Value.slice none 0 0 := h1
          obtain rfl : _ = Value.slice none 0 0 := h2
          exact ⟨.bool false, by simp [overlaps_eq, hp, run_underlying hu, run_sizeOf hs], rfl⟩
  · cases hv
theorem in8 {c : Int} (h : inRange .u8 c = true) : 0 ≤ c ∧ c < 256 := (u8_of_inRange h).2
theorem extCount_ok : LtOk θ P ρ h w extCount Extern.BytealgCount.count := by
  intro vs v xs tt hv
  unfold extCount at hv
  split at hv
  · rename_i n s c
    obtain ⟨h1, hv⟩ := bsel_bad_opt hv
    rw [band_eq, Bool.and_eq_true] at h1
    injection hv with hv; subst hv
    cases tt with
    | cons a tt => cases tt with
      | cons b tt => cases tt with
        | nil =>
          obtain ⟨hn, hs, rfl⟩ := vrel_str a
          obtain rfl := vrel_int b
          have hc := in8 h1.2
          have hl := lits_all hs h1.1
          refine ⟨_, Lib.run_countString _ _ w, ?_⟩
          have e : Lib.countByte (strOf θ s).data.toList c.toNat.toUInt8 = countI c s := by
            rw [← count_ok (θ := θ) hc hl]
            simp only [strOf]; rfl
          rw [e]; rfl
  · cases hv
theorem extIdx_ok : LtOk θ P ρ h w extIdx Extern.BytealgIndexByte.indexByte := by
  intro vs v xs tt hv
  unfold extIdx at hv
  split at hv
  · rename_i n s c
    obtain ⟨h1, hv⟩ := bsel_bad_opt hv
    rw [band_eq, Bool.and_eq_true] at h1
    injection hv with hv; subst hv
    cases tt with
    | cons a tt => cases tt with
      | cons b tt => cases tt with
        | nil =>
          obtain ⟨hn, hs, rfl⟩ := vrel_str a
          obtain rfl := vrel_int b
          have hc := in8 h1.2
          have hl := lits_all hs h1.1
          refine ⟨_, run_indexByte_string _ _ w, ?_⟩
          have e : firstIdx (strOf θ s) c.toNat.toUInt8 = idxI c 0 s := by
            rw [idx_ok (θ := θ) hc 0 hl]
            unfold firstIdx
            have h2 := find_range (strOf θ s) (fun x => x == c.toNat.toUInt8)
            rw [h2]
            simp only [strOf, Nat.zero_add]
            rfl
          rw [e]; rfl
  · cases hv

theorem ext_ok (hE : ExtOk P) {f : FuncId} {fn : Func} {g : LT} (hf : P.funcs[f]? = some fn) (hb : fn.body = none) (hg : extF P fn = .mk g) (hr : HRel θ ρ h w) {vs : List V} {xs : List Value} {v : V}
    (tt : All2 (VRel θ ρ) vs xs) (hv : g h vs = some v) : ∃ y, (callFunc f xs.toArray).run P w = .ok (.value y) w ∧ VRel θ ρ v y := by
  obtain ⟨h1, h2, h3⟩ := hE f fn g hf hb hg
  have go : ∀ {s : Array Value → Sem Value}, Extern.find fn = some s → LtOk θ P ρ h w g s → ∃ y, (callFunc f xs.toArray).run P w = .ok (.value y) w ∧ VRel θ ρ v y := by
    intro s hs hl
    obtain ⟨y, e, hy⟩ := hl vs v xs tt hv
    exact ⟨y, by rw [run_callFunc_extern hf h1 (by rw [hb]; rfl) h2 hs, e]; rfl, hy⟩
  unfold extF at hg
  rcases h3 with ⟨hn, hs⟩ | ⟨hn, hs⟩ | ⟨ho, hn1, hn2, hs⟩
  · rw [hn] at hg
    simp only [beq_self_eq_true, cond_true] at hg
    injection hg with hg; subst hg
    exact go hs extCount_ok
  · rw [hn] at hg
    have : ("internal/bytealg.IndexByteString" == "internal/bytealg.CountString") = false := by decide
    simp only [this, beq_self_eq_true, cond_true, cond_false] at hg
    injection hg with hg; subst hg
    exact go hs extIdx_ok
  · have e1 : (fn.name == "internal/bytealg.CountString") = false := by simpa using hn1
    have e2 : (fn.name == "internal/bytealg.IndexByteString") = false := by simpa using hn2
    simp only [e1, e2, ho, beq_self_eq_true, cond_true, cond_false] at hg
    split at hg
    · rename_i e he
      split at hg
      · rename_i size hsz
        injection hg with hg; subst hg
        obtain ⟨t, ht, he⟩ := Option.bind_eq_some_iff.1 he
        exact go hs (extOver_ok ht he hsz hr)
      · cases hg
    · cases hg
end Go.Ev
end

section
set_option autoImplicit false
namespace Go.Ev
variable {θ : Nat → Int} {P : Program} {ρ : Ro} {h : Heap} {w : World}
variable {c : Cx} {env : List V} {tm : PT V} {a : Act}

theorem t1_spec {f : T1} {x : OF} {v : V} (hv : t1 f x env tm h = some v) : ∃ u, ev x env tm = some u ∧ f h u = some v := by
  unfold t1 ob at hv
  cases hx : ev x env tm with
  | none => rw [hx] at hv; cases hv
  | some u => rw [hx] at hv; exact ⟨u, rfl, hv⟩
theorem t2_spec {f : T2} {x y : OF} {v : V} (hv : t2 f x y env tm h = some v) : ∃ u u', ev x env tm = some u ∧ ev y env tm = some u' ∧ f h u u' = some v := by
  unfold t2 ob at hv
  cases hx : ev x env tm with
  | none => rw [hx] at hv; cases hv
  | some u =>
    rw [hx] at hv
    cases hy : ev y env tm with
    | none => rw [hy] at hv; cases hv
    | some u' => rw [hy] at hv; exact ⟨u, u', rfl, rfl, hv⟩
theorem tList_spec {f : LT} {xs : OFs} {v : V} (hv : tList f xs env tm h = some v) : ∃ vs, evs xs env tm = some vs ∧ f h vs = some v := by
  unfold tList at hv
  split at hv
  · rename_i vs hvs; exact ⟨vs, hvs, hv⟩
  · cases hv

theorem oopd_sound {x : Option Operand} {o : Option Nat} (hg : GOk θ c.gl ρ) (ht : ∀ t, x = some (.tmp t) → TRel θ ρ c env tm a t) (hv : optNat env tm (oopd c x) = some o) :
    BRel o (x.map a.eval) ∧ o.isSome = x.isSome := by
  cases x with
  | none => change some none = some o at hv; injection hv with hv; subst hv; exact ⟨trivial, rfl⟩
  | some x =>
    unfold oopd optNat at hv
    simp only at hv
    split at hv
    · rename_i v hx
      have hr := opd_sound hg (fun t e => ht t (by rw [e])) hx
      split at hv
      · rename_i n hn
        injection hv with hv; subst hv
        obtain ⟨k, rfl⟩ := natLit_spec hn
        exact ⟨⟨k, hr⟩, rfl⟩
      · cases hv
    · cases hv

theorem tSlice_ok {t : TypeId} {f : SlT} {x : Operand} {lo hi mx : Option Operand} {v : V} (hf : SlOk θ P ρ h w t f) (hg : GOk θ c.gl ρ)
    (ht : ∀ t, Operand.tmp t ∈ (#[x] ++ lo.toArray ++ hi.toArray ++ mx.toArray) → TRel θ ρ c env tm a t) (hb : band mx.isSome hi.isNone = false)
    (hv : tSlice f (opd c x) (oopd c lo) (oopd c hi) (oopd c mx) env tm h = some v) :
    ∃ y, (Instr.sliceAt t (a.eval x) (lo.map a.eval) (hi.map a.eval) (mx.map a.eval)).run P w = .ok y w ∧ VRel θ ρ v y := by
  unfold tSlice at hv
  split at hv
  · rename_i u l i m hu hl hi' hm
    have h0 := opd_sound hg (fun t e => ht t (by simp [e])) hu
    obtain ⟨h1, _⟩ := oopd_sound hg (fun t e => ht t (by simp [e])) hl
    obtain ⟨h2, e2⟩ := oopd_sound hg (fun t e => ht t (by simp [e])) hi'
    obtain ⟨h3, e3⟩ := oopd_sound hg (fun t e => ht t (by simp [e])) hm
    refine hf _ _ _ _ _ _ _ _ _ h0 h1 h2 h3 ?_ hv
    intro hm'
    rw [e3] at hm'
    rw [band_eq, hm', Bool.true_and] at hb
    rw [e2]
    cases hi <;> simp_all
  · cases hv

theorem vrun {s : Sem Value} {v : V} (hs : ∃ y, s.run P w = .ok y w ∧ VRel θ ρ v y) : ∃ x, (do pure (Next.value (← s)) : Sem Next).run P w = .ok (.value x) w ∧ VRel θ ρ v x :=
  let ⟨y, e, r⟩ := hs; ⟨y, by simp [e], r⟩

/-- An operation that only reads does what its abstract form says. -/
theorem tk_sound (hE : ExtOk P) {o : Oper} {f : TkR} {v : V} (hf : tkF P c o = .mk f) (hg : GOk θ c.gl ρ) (hr : HRel θ ρ h w)
    (ht : ∀ t, Operand.tmp t ∈ o.op.operands → TRel θ ρ c env tm a t) (hv : f env tm h = some v) :
    ∃ x, (execOp a.eval o).run P w = .ok (.value x) w ∧ VRel θ ρ v x := by
  obtain ⟨dst, op, ty, ps, aft⟩ := o
  simp only at ht
  have one : ∀ {x : Operand} {u : V}, (∀ t, x = .tmp t → Operand.tmp t ∈ op.operands) → ev (opd c x) env tm = some u → VRel θ ρ u (a.eval x) :=
    fun hx hu => opd_sound hg (fun t e => ht t (hx t e)) hu
  have rd1 : ∀ {g : T1} {x : Operand}, (∀ t, x = .tmp t → Operand.tmp t ∈ op.operands) → f = t1 g (opd c x) → ∃ u, VRel θ ρ u (a.eval x) ∧ g h u = some v := by
    intro g x hx e; subst e
    obtain ⟨u, e1, e2⟩ := t1_spec hv
    exact ⟨u, one hx e1, e2⟩
  have rd2 : ∀ {g : T2} {x y : Operand}, (∀ t, x = .tmp t → Operand.tmp t ∈ op.operands) → (∀ t, y = .tmp t → Operand.tmp t ∈ op.operands) → f = t2 g (opd c x) (opd c y) →
      ∃ u u', VRel θ ρ u (a.eval x) ∧ VRel θ ρ u' (a.eval y) ∧ g h u u' = some v := by
    intro g x y hx hy e; subst e
    obtain ⟨u, u', e1, e2, e3⟩ := t2_spec hv
    exact ⟨u, u', one hx e1, one hy e2, e3⟩
  unfold tkF at hf
  simp only at hf
  cases op with
  | move x =>
    injection hf with hf
    obtain ⟨u, hu, e⟩ := rd1 (fun t e => by simp [Op.operands, e]) hf.symm
    injection e with e; subst e
    exact ⟨_, rfl, hu⟩
  | assign x =>
    injection hf with hf
    obtain ⟨u, hu, e⟩ := rd1 (fun t e => by simp [Op.operands, e]) hf.symm
    injection e with e; subst e
    exact ⟨_, rfl, hu⟩
  | pick x y z =>
    injection hf with hf; subst hf
    unfold tPick ob at hv
    cases hx : ev (opd c x) env tm with
    | none => rw [hx] at hv; cases hv
    | some u =>
      rw [hx] at hv
      have h0 := one (fun t e => by simp [Op.operands, e]) hx
      cases u <;> simp only [reduceCtorEq] at hv
      rename_i b
      have e0 := vrel_bool h0
      cases b
      · exact ⟨a.eval z, by simp [execOp, e0, asBool], one (fun t e => by simp [Op.operands, e]) hv⟩
      · exact ⟨a.eval y, by simp [execOp, e0, asBool], one (fun t e => by simp [Op.operands, e]) hv⟩
  | build t ps =>
    simp only at hf
    split at hf
    · rename_i n z hz
      split at hf
      · rename_i fs hu
        obtain ⟨hs, hf⟩ : (fs.toList.all fun f => (szOf P f.type).isSome) = true ∧ (TkF.mk (tBuild n z (structPlace P fs) (pfs c ps.toList)) = .mk f) := by
          rw [bsel_eq] at hf; split at hf
          · rename_i hs; exact ⟨hs, hf⟩
          · cases hf
        injection hf with hf; subst hf
        obtain ⟨y, e, hy⟩ := buildS_ok (a := a) (w := w) hz hu hs hg (fun t e => ht t (by simpa [Op.operands] using e)) hv
        refine vrun (s := Instr.build t (ps.map fun (i, x) => (i, a.eval x))) ⟨y, ?_, hy⟩
        rw [← e, show (ps.map fun (x : Nat × Operand) => (x.1, a.eval x.2)) = (ps.toList.map fun x => (x.1, a.eval x.2)).toArray from (Array.toList_inj.1 (by simp))]
      · rename_i m e hu
        split at hf
        · rename_i s hs
          injection hf with hf; subst hf
          obtain ⟨y, e, hy⟩ := buildA_ok (a := a) (w := w) hz hu hs hg (fun t e => ht t (by simpa [Op.operands] using e)) hv
          refine vrun (s := Instr.build t (ps.map fun (i, x) => (i, a.eval x))) ⟨y, ?_, hy⟩
          rw [← e, show (ps.map fun (x : Nat × Operand) => (x.1, a.eval x.2)) = (ps.toList.map fun x => (x.1, a.eval x.2)).toArray from (Array.toList_inj.1 (by simp))]
        · cases hf
      · cases hf
    · cases hf
  | load t x =>
    simp only at hf
    split at hf
    · rename_i ha
      split at hf
      · rename_i n hn
        injection hf with hf
        obtain ⟨u, hu, e⟩ := rd1 (fun t e => by simp [Op.operands, e]) hf.symm
        exact vrun (run_loadAgg ha hn hr hu e)
      · cases hf
    · rename_i ha
      injection hf with hf
      obtain ⟨u, hu, e⟩ := rd1 (fun t e => by simp [Op.operands, e]) hf.symm
      exact vrun (run_loadOne ha hr hu e)
    · cases hf
  | nilCheck x =>
    injection hf with hf
    obtain ⟨u, hu, e⟩ := rd1 (fun t e => by simp [Op.operands, e]) hf.symm
    rcases run_tNil hu e with ⟨rfl, b, e1⟩ | ⟨rfl, g, xs, e1⟩
    · exact ⟨a.eval x, by simp [execOp, e1], hu⟩
    · exact ⟨a.eval x, by simp [execOp, e1], hu⟩
  | binOp b t x y i =>
    simp only at hf
    split at hf
    · rename_i g hgb
      injection hf with hf
      obtain ⟨u, u', hu, hu', e⟩ := rd2 (fun t e => by simp [Op.operands, e]) (fun t e => by simp [Op.operands, e]) hf.symm
      exact vrun (binF_ok hgb u u' v _ _ x y hu hu' e)
    · cases hf
  | unOp b t x =>
    injection hf with hf
    obtain ⟨u, hu, e⟩ := rd1 (fun t e => by simp [Op.operands, e]) hf.symm
    exact vrun (unF_ok hu e)
  | convert s d x =>
    simp only at hf
    split at hf
    · rename_i g hgc
      injection hf with hf
      obtain ⟨u, hu, e⟩ := rd1 (fun t e => by simp [Op.operands, e]) hf.symm
      exact vrun (convF_ok hgc hr hu e)
    · cases hf
  | sliceToArrayPointer t x =>
    simp only at hf
    split at hf
    · rename_i n e0 hu0
      injection hf with hf
      obtain ⟨u, hu, e⟩ := rd1 (fun t e => by simp [Op.operands, e]) hf.symm
      exact vrun (run_arrayAt hu0 hu e)
    · cases hf
  | makeFunc fn first caps =>
    cases fn with
    | func g =>
      simp only at hf
      split at hf
      · rename_i hfi
        injection hf with hf; subst hf
        have hfi : first = #[] := by simpa using hfi
        subst hfi
        unfold tFunc at hv
        split at hv
        · rename_i vs hvs
          have hl := opds_sound hg (fun t e => ht t (by simpa [Op.operands] using e)) hvs
          split at hv
          · rename_i cs hcs
            injection hv with hv; subst hv
            refine ⟨.func (.func g) #[] (caps.map a.eval), by simp [execOp, Instr.makeFunc], caps.map a.eval, rfl, ?_⟩
            have := makeCaps_ok hl hcs
            simpa using this
          · cases hv
        · cases hv
      · cases hf
    | _ => cases hf
  | slice t x lo hi mx =>
    simp only at hf
    split at hf
    · rename_i g hgs
      rw [bsel_eq] at hf
      split at hf
      · cases hf
      · rename_i hb
        injection hf with hf; subst hf
        have hok : SlOk θ P ρ h w t g := by
          unfold sliceT at hgs
          split at hgs
          · rename_i hu; injection hgs with hgs; subst hgs; exact sliceStr_ok hu
          · rename_i n e hu
            split at hgs
            · rename_i s hs; injection hgs with hgs; subst hgs; exact sliceArr_ok hu hs
            · cases hgs
          · rename_i e hu
            split at hgs
            · rename_i s hs; injection hgs with hgs; subst hgs; exact sliceSlT_ok hu hs hr
            · cases hgs
          · cases hgs
        exact vrun (tSlice_ok hok hg ht (by cases hq : band mx.isSome hi.isNone <;> simp_all) hv)
    · cases hf
  | fieldAddr t x i =>
    simp only at hf
    split at hf
    · rename_i fd hfd
      split at hf
      · rename_i n hn
        rw [bsel_eq] at hf
        split at hf
        · cases hf
        · rename_i h0
          injection hf with hf
          obtain ⟨u, hu, e⟩ := rd1 (fun t e => by simp [Op.operands, e]) hf.symm
          exact vrun (run_fieldAt hfd hn (by simpa [nbeq_iff] using h0) hu e)
      · cases hf
    · cases hf
  | field t x i =>
    simp only at hf
    split at hf
    · rename_i fd hfd
      split at hf
      · rename_i ag n hag hn
        injection hf with hf
        obtain ⟨u, hu, e⟩ := rd1 (fun t e => by simp [Op.operands, e]) hf.symm
        exact vrun (run_field hfd hag hn hu e)
      · cases hf
    · cases hf
  | indexAddr t x i =>
    simp only at hf
    split at hf
    · rename_i n e0 hu0
      split at hf
      · rename_i s hs
        injection hf with hf
        obtain ⟨u, u', hu, hu', e⟩ := rd2 (fun t e => by simp [Op.operands, e]) (fun t e => by simp [Op.operands, e]) hf.symm
        exact vrun (run_idxArr hu0 hs hu hu' e)
      · cases hf
    · rename_i e0 hu0
      split at hf
      · rename_i s hs
        injection hf with hf
        obtain ⟨u, u', hu, hu', e⟩ := rd2 (fun t e => by simp [Op.operands, e]) (fun t e => by simp [Op.operands, e]) hf.symm
        exact vrun (run_idxSl hu0 hs hu hu' e)
      · cases hf
    · cases hf
  | index t x i =>
    simp only at hf
    split at hf
    · rename_i n e0 hu0
      split at hf
      · rename_i ag s hag hs
        injection hf with hf
        obtain ⟨u, u', hu, hu', e⟩ := rd2 (fun t e => by simp [Op.operands, e]) (fun t e => by simp [Op.operands, e]) hf.symm
        exact vrun (run_idxAgg hu0 hag hs hu hu' e)
      · cases hf
    · rename_i hu0
      injection hf with hf
      obtain ⟨u, u', hu, hu', e⟩ := rd2 (fun t e => by simp [Op.operands, e]) (fun t e => by simp [Op.operands, e]) hf.symm
      exact vrun (run_idxStr hu0 hu hu' e)
    · cases hf
  | lookup t x i ok =>
    simp only at hf
    split at hf
    · rename_i kt et hu0
      split at hf
      · rename_i kk z hk hz
        injection hf with hf
        obtain ⟨u, u', hu, hu', e⟩ := rd2 (fun t e => by simp [Op.operands, e]) (fun t e => by simp [Op.operands, e]) hf.symm
        exact vrun (lookup_ok hu0 hk hz hr hu hu' e)
      · cases hf
    · cases hf
  | entry x =>
    injection hf with hf
    obtain ⟨u, hu, e⟩ := rd1 (fun t e => by simp [Op.operands, e]) hf.symm
    exact vrun (entry_ok hr hu e)
  | extract x i =>
    injection hf with hf
    obtain ⟨u, hu, e⟩ := rd1 (fun t e => by simp [Op.operands, e]) hf.symm
    exact vrun (run_extract hu e)
  | call k =>
    simp only at hf
    have eargs : (k.args.map a.eval) = (k.args.toList.map a.eval).toArray := Array.toList_inj.1 (by simp)
    split at hf
    · rename_i b hb
      split at hf
      · rename_i g hgb
        injection hf with hf; subst hf
        obtain ⟨vs, e1, e2⟩ := tList_spec hv
        have hl := opds_sound hg (fun t e => ht t (by simpa [Op.operands, Call.operands, hb] using e)) e1
        obtain ⟨y, e, hy⟩ := builtinT_ok (w := w) (t0 := ty) (cs := k.args.map fun | .const _ => true | _ => false) hgb hr hl e2
        refine ⟨y, ?_, hy⟩
        simp only [execOp, resolve, hb, Sem.run_bind, Sem.run_pure, Result.andThen_ok, invoke]
        rw [eargs]; exact e
      · cases hf
    · rename_i g hcal
      split at hf
      · rename_i fn hfn
        split at hf
        · cases hf
        · rename_i hbody
          split at hf
          · rename_i g' hg'
            injection hf with hf; subst hf
            obtain ⟨vs, e1, e2⟩ := tList_spec hv
            have hl := opds_sound hg (fun t e => ht t (by simp only [Op.operands, Call.operands, hcal]; simpa using e)) e1
            obtain ⟨y, e, hy⟩ := ext_ok (w := w) hE hfn hbody hg' hr hl e2
            refine ⟨y, ?_, hy⟩
            simp only [execOp, resolve, hcal, Act.eval, Deferred.ofValue, Sem.run_bind, Sem.run_pure, Result.andThen_ok, invoke]
            rw [show (#[] ++ Array.map a.eval k.args ++ #[] : Array Value) = (k.args.toList.map a.eval).toArray from Array.toList_inj.1 (by simp)]
            exact e
          · cases hf
      · cases hf
    · cases hf
  | _ => cases hf
end Go.Ev
end
