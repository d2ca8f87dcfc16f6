import Derived.Test.YtienogpnkkailaaGreatDoorEvF
import Derived.Test.YtienogpnkkailaaGreatDoorEvB
section
set_option autoImplicit false
namespace Go.Ev
variable {θ : Nat → Int} {P : Program}

/-- A maker is carried out, now or later: its cells are those that the abstract run put into the block. -/
theorem mk_fill {c : Cx} {env : List V} {tm : PT V} {a : Act} {ρ : Ro} {w : World} {o : Oper} {f : List V → PT V → Option (List V × Nat)} {len : Option Nat} {z : List V} {n : Nat} (hf : mkF P c o = .mk f len) (hg : GOk θ c.gl ρ)
    (ht : ∀ t, Operand.tmp t ∈ o.op.operands → TRel θ ρ c env tm a t) (hv : f env tm = some (z, n)) :
    ∃ (arr : Array Value) (e : TypeId), (execOp a.eval o).run P w = .ok (.value (match len with
        | none => .pointer (some ⟨w.heap.size, 0, none⟩)
        | some k => .slice (some ⟨w.heap.size, 0, none⟩) k k)) (World.push w (.cells arr e)) ∧ z.length = n ∧ All2 (CRel θ ρ) z arr.toList := by
  obtain ⟨dst, op, ty, ps, aft⟩ := o
  simp only at ht
  unfold mkF at hf
  simp only at hf
  cases op with
  | alloc e =>
    simp only at hf
    split at hf
    · rename_i m z0 hz
      injection hf with hf hl; subst hf; subst hl
      injection hv with hv; injection hv with h1 h2; subst h1; subst h2
      obtain ⟨x, h1, h2, h3⟩ := zeroCells_spec (θ := θ) hz
      exact ⟨x.cells, e, by simp [execOp, Instr.alloc, h1, newVar, newRow, World.push], h2, h3 ρ⟩
    · cases hf
  | buildSlice t k parts =>
    simp only at hf
    split at hf
    · rename_i e he
      split at hf
      · rename_i s m z0 hn hz
        rw [bsel_eq] at hf
        split at hf
        · rename_i hc
          injection hf with hf hl; subst hf; subst hl
          simp only [band_eq, Bool.and_eq_true, nble_iff, nbeq_iff, decide_eq_true_eq] at hc
          obtain ⟨hlim, hmn, _⟩ := hc
          subst hmn
          have hty := elemOfSlice_spec he
          obtain ⟨zv, hzrun, hzlen, hzrel⟩ := zeroCells_spec (P := P) (θ := θ) hz
          unfold mkParts at hv
          split at hv
          · rename_i vs hvs
            split at hv
            · rename_i cs hcs
              injection hv with hv; injection hv with h1 h2; subst h1; subst h2
              have hzz : ∃ zero : Array Value, ((k * m = 0 ∧ zero = #[]) ∨ (k * m ≠ 0 ∧ zero = zv.cells)) ∧ All2 (CRel θ ρ) (replV z0 k) ((Array.range (k * m)).map (zero[· % zero.size]!)).toList := by
                by_cases h0 : k * m = 0
                · refine ⟨#[], .inl ⟨h0, rfl⟩, ?_⟩
                  have h1 : replV z0 k = [] := List.length_eq_zero_iff.1 (by rw [replV_len, hzlen, h0])
                  rw [h1, h0, Array.eq_empty_of_size_eq_zero (xs := Array.range 0) (by simp), Array.map_empty]
                  exact .nil
                · exact ⟨zv.cells, .inr ⟨h0, rfl⟩, repl_rel (hzrel ρ) k (by rw [hzlen])⟩
              obtain ⟨zero, hz1, hz2⟩ := hzz
              obtain ⟨ys, e1, e2, e3⟩ := fill_ok (θ := θ) (ρ := ρ) (len := k * m) (place' := fun i => some (i * m, m)) (fun i r hr => hr)
                (evParts_ok (a := a) hg (fun t e => ht t (by simpa [Op.operands] using e)) hvs) (by rw [replV_len, hzlen]) hz2 hcs
              refine ⟨ys, e, ?_, e2, e3⟩
              have hl : ¬ (k * m > 2 ^ 24) := by omega
              have hpar : (parts.toList.map fun x => (x.1, a.eval x.2)).toArray = (parts.map fun (x : Nat × Operand) => (x.1, a.eval x.2)) := Array.toList_inj.1 (by simp)
              have hrun : (Instr.buildSlice t k (parts.toList.map fun x => (x.1, a.eval x.2)).toArray).run P w = .ok (.slice (some ⟨w.heap.size, 0, none⟩) k k) (World.push w (.cells ys e)) := by
                rcases hz1 with ⟨h0, rfl⟩ | ⟨h0, rfl⟩
                · simp only [Instr.buildSlice, Sem.run_bind, run_underlying hty, Result.andThen_ok, run_sizeOf hn, hl, if_false, if_pos h0, Sem.run_pure]
                  simp only [e1]
                  rfl
                · simp only [Instr.buildSlice, Sem.run_bind, run_underlying hty, Result.andThen_ok, run_sizeOf hn, hl, if_false, if_neg h0, hzrun, Sem.run_pure]
                  simp only [e1]
                  rfl
              rw [hpar] at hrun
              show Sem.run P (do pure (Next.value (← Instr.buildSlice t k (parts.map fun (x : Nat × Operand) => (x.1, a.eval x.2))))) w = _
              rw [Sem.run_bind, hrun]
              rfl
            · cases hv
          · cases hv
        · cases hf
      · cases hf
    · cases hf
  | _ => cases hf
end Go.Ev
end

section
set_option autoImplicit false
namespace Go.Ev
variable {θ : Nat → Int} {P : Program}
/-- A ghost gets its place. -/
theorem HRel.fill {ρ : Ro} {h : Heap} {w : World} {b n : Nat} {z : List V} {arr : Array Value} {e : TypeId} (hr : HRel θ ρ h w) (hb : h.get b = some (.blk z n .exact)) (hn : ρ b = none) (hlt : b < h.next)
    (hz : z.length = n) (t : All2 (CRel θ ρ) z arr.toList) :
    HRel θ (ρ.ext b ⟨w.heap.size, 0, 0⟩) h (World.push w (.cells arr e)) ∧ ρ.le (ρ.ext b ⟨w.heap.size, 0, 0⟩) := by
  have hle := Ro.le_ext (⟨w.heap.size, 0, 0⟩ : Pl) hn
  have hold : ∀ a q, ρ a = some q → (World.push w (.cells arr e)).heap[q.blk]? = w.heap[q.blk]? := fun a q hq => by
    have := (hr.dom a q hq).2
    show (w.heap.push _)[q.blk]? = _
    rw [Array.getElem?_push_lt this, Array.getElem?_eq_getElem this]
  obtain ⟨f1, f2⟩ := all2_cells t
  refine ⟨⟨?_, ?_, ?_, ?_⟩, hle⟩
  · intro a q hq
    show a < h.next ∧ q.blk < (w.heap.push _).size
    rw [Array.size_push]
    rw [Ro.ext_eq] at hq
    by_cases ea : a = b
    · rw [if_pos ea] at hq; injection hq with hq; subst hq; exact ⟨ea ▸ hlt, Nat.lt_succ_self _⟩
    · rw [if_neg ea] at hq; have := hr.dom a q hq; omega
  · intro a o q ha hq
    by_cases ea : a = b
    · subst ea
      rw [hb] at ha; injection ha with ha; subst ha
      refine ⟨⟨w.heap.size, 0, 0⟩, Ro.ext_same _ _ _, hz, arr, e, (0, 0), push_get _ _, ?_, by show 0 + n ≤ _; omega, ?_, trivial⟩
      · intro o ho; simp at ho
      · intro i v hi
        obtain ⟨x, h1, h2⟩ := f2 i v hi
        exact ⟨x, by simpa using h1, h2.mono hle⟩
    · rw [Ro.ext_ne _ _ ea] at hq
      exact (hr.obj a o q ha hq).mono hle fun q' hq' => hold a q' hq'
  · intro x y q r o1 o2 hx hy hq hrr he
    rw [Ro.ext_eq] at hq hrr
    by_cases ex : x = b <;> by_cases ey : y = b
    · rw [ex, ey]
    · rw [if_pos ex] at hq; rw [if_neg ey] at hrr
      injection hq with hq; subst hq
      have := (hr.dom y r hrr).2; simp only at he; omega
    · rw [if_neg ex] at hq; rw [if_pos ey] at hrr
      injection hrr with hrr; subst hrr
      have := (hr.dom x q hq).2; simp only at he; omega
    · rw [if_neg ex] at hq; rw [if_neg ey] at hrr
      exact hr.inj x y q r o1 o2 hx hy hq hrr he
  · intro q c hzq
    obtain ⟨⟨e', fr, h1⟩, h2⟩ := hr.frz q c hzq
    have hlt := (Array.getElem?_eq_some_iff.1 h1).1
    refine ⟨⟨e', fr, ?_⟩, ?_⟩
    · show (w.heap.push _)[q]? = _
      rw [Array.getElem?_push_lt hlt, ← h1, Array.getElem?_eq_getElem hlt]
    · rintro ⟨a, p, o, ha, hp, e⟩
      rw [Ro.ext_eq] at hp
      by_cases ea : a = b
      · rw [if_pos ea] at hp; injection hp with hp; subst hp
        simp only at e; omega
      · rw [if_neg ea] at hp; exact h2 ⟨a, p, o, ha, hp, e⟩
theorem Fram.fill {ρ0 ρ : Ro} {h0 h : Heap} {w0 w : World} {b : Nat} {x : Obj} (f : Fram ρ0 h0 w0 ρ h w) (hb : h0.next ≤ b) :
    Fram ρ0 h0 w0 (ρ.ext b ⟨w.heap.size, 0, 0⟩) h (World.push w x) := by
  refine ⟨?_, ?_, f.next, ?_, fun q c hz hq hn => f.frz q c hz hq hn, f.io⟩
  · show w0.heap.size ≤ (w.heap.push x).size
    rw [Array.size_push]; have := f.grow; omega
  · intro q hq hn
    obtain ⟨e1, n1⟩ := f.keep q hq hn
    have hlt : q < w.heap.size := Nat.lt_of_lt_of_le hq f.grow
    refine ⟨?_, ?_⟩
    · show (w.heap.push x)[q]? = _
      rw [Array.getElem?_push_lt hlt, ← e1, Array.getElem?_eq_getElem hlt]
    · rintro ⟨a, p, o, ha, hp, e⟩
      rw [Ro.ext_eq] at hp
      by_cases ea : a = b
      · rw [if_pos ea] at hp; injection hp with hp; subst hp
        simp only at e; omega
      · rw [if_neg ea] at hp; exact n1 ⟨a, p, o, ha, hp, e⟩
  · intro y hy hn
    obtain ⟨e1, e2⟩ := f.ghost y hy hn
    exact ⟨by rw [Ro.ext_ne _ _ (by omega)]; exact e1, e2⟩
end Go.Ev
end

section
set_option autoImplicit false
namespace Go.Ev
variable {θ : Nat → Int} {P : Program}

/-! ### regions that draw their order: what the abstract run has done -/
/-- an operation that the abstract run has done: where it stood; its value; the block that it made (where that has no place yet) -/
structure Rec where
  i : Nat
  o : Oper
  c : Cx
  env : List V
  tm : PT V
  v : V
  gh : Option Nat

inductive Tr (ops : Array Oper) (ds : List (Nat × Nat)) (c0 : Cx) (tm0 : PT V) : List Rec → Cx → List V → PT V → Prop
  | nil : Tr ops ds c0 tm0 [] c0 [] tm0
  | cons {D : List Rec} {c : Cx} {env : List V} {tm : PT V} (r : Rec) (t : Tr ops ds c0 tm0 D c env tm) (hc : r.c = c) (he : r.env = env) (ht : r.tm = tm) (ho : ops[r.i]? = some r.o)
      (hn : memNat r.i (D.map (·.i)) = false) (ha : ∀ e ∈ r.o.after, Region.binds .any e = true → memNat e.on (D.map (·.i)) = true)
      (hx : ∀ x ∈ r.o.op.operands, operandOk ops ds r.i r.o x = true) (hg : guardOk ops ds r.i r.o = true) (hd : dF c r.o.dst ≠ .bad) :
      Tr ops ds c0 tm0 (r :: D) (dCx c r.o.dst) (dEnv (dF c r.o.dst) env r.v) (dTm (dF c r.o.dst) tm r.v)

theorem memNat_iff {n : Nat} {l : List Nat} : memNat n l = true ↔ n ∈ l := by rw [memNat_eq]; simp
theorem memNat_no {n : Nat} {l : List Nat} : memNat n l = false ↔ n ∉ l := by rw [memNat_eq]; simp
section
variable {ops : Array Oper} {ds : List (Nat × Nat)} {c0 c : Cx} {tm0 tm : PT V} {env : List V} {D : List Rec}
theorem tr_cx (h : Tr ops ds c0 tm0 D c env tm) : c.gl = c0.gl ∧ c.keep = c0.keep ∧ c.nt = c0.nt := by
  induction h with
  | nil => exact ⟨rfl, rfl, rfl⟩
  | cons r t _ _ _ _ _ _ _ _ _ ih => cases r.o.dst <;> exact ih
theorem tr_ops (h : Tr ops ds c0 tm0 D c env tm) : ∀ r ∈ D, ops[r.i]? = some r.o := by
  induction h with
  | nil => intro r hr; cases hr
  | cons r t _ _ _ ho _ _ _ _ _ ih =>
    intro m hm
    rcases List.mem_cons.1 hm with rfl | hm
    · exact ho
    · exact ih m hm
theorem tr_inj (h : Tr ops ds c0 tm0 D c env tm) : ∀ r ∈ D, ∀ m ∈ D, r.i = m.i → r = m := by
  induction h with
  | nil => intro r hr; cases hr
  | cons r t _ _ _ _ hn _ _ _ _ ih =>
    intro x hx m hm e
    rw [memNat_no] at hn
    rcases List.mem_cons.1 hx with e1 | hx
    · rcases List.mem_cons.1 hm with e2 | hm
      · rw [e1, e2]
      · exact absurd (List.mem_map.2 ⟨m, hm, by rw [← e, e1]⟩) hn
    · rcases List.mem_cons.1 hm with e2 | hm
      · exact absurd (List.mem_map.2 ⟨x, hx, by rw [e, e2]⟩) hn
      · exact ih x hx m hm e
theorem tr_edges (h : Tr ops ds c0 tm0 D c env tm) : ∀ r ∈ D, ∀ e ∈ r.o.after, Region.binds .any e = true → e.on ∈ D.map (·.i) := by
  induction h with
  | nil => intro r hr; cases hr
  | cons r t _ _ _ _ _ ha _ _ _ ih =>
    intro x hx e he hb
    rcases List.mem_cons.1 hx with rfl | hx
    · exact List.mem_cons_of_mem _ (memNat_iff.1 (ha e he hb))
    · exact List.mem_cons_of_mem _ (ih x hx e he hb)
/-- where an operation stood -/
theorem tr_split (h : Tr ops ds c0 tm0 D c env tm) : ∀ r ∈ D, ∃ Dr, (∀ m ∈ Dr, m ∈ D) ∧ Tr ops ds c0 tm0 Dr r.c r.env r.tm ∧ memNat r.i (Dr.map (·.i)) = false ∧
    (∀ e ∈ r.o.after, Region.binds .any e = true → memNat e.on (Dr.map (·.i)) = true) ∧ (∀ x ∈ r.o.op.operands, operandOk ops ds r.i r.o x = true) ∧ guardOk ops ds r.i r.o = true ∧ dF r.c r.o.dst ≠ .bad := by
  induction h with
  | nil => intro r hr; cases hr
  | @cons D c env tm r t hc he ht _ hn ha hx hg hd ih =>
    intro m hm
    rcases List.mem_cons.1 hm with rfl | hm
    · exact ⟨D, fun m hm => List.mem_cons_of_mem _ hm, by rw [hc, he, ht]; exact t, hn, ha, hx, hg, by rw [hc]; exact hd⟩
    · obtain ⟨Dr, h1, h2⟩ := ih m hm
      exact ⟨Dr, fun m hm => List.mem_cons_of_mem _ (h1 m hm), h2⟩

theorem ev_push_same {d : Nat} {v : V} (hd : dF c (some d) ≠ .bad) : ev (tmpF (dCx c (some d)) d) (dEnv (dF c (some d)) env v) (dTm (dF c (some d)) tm v) = some v := by
  obtain ⟨_, hk⟩ := dF_spec hd
  have henv : dEnv (dF c (some d)) env v = v :: env := by rcases hk with ⟨e1, _⟩ | ⟨e1, _⟩ <;> rw [e1] <;> rfl
  have : tmpF (dCx c (some d)) d = .loc 0 := by
    unfold tmpF
    rw [show (dCx c (some d)).loc = d :: c.loc from rfl, locIdx_cons, if_pos rfl]
  rw [this, henv]; rfl
theorem ev_push_ne {d t : Nat} {v : V} (hd : dF c (some d) ≠ .bad) (h : t ≠ d) : ev (tmpF (dCx c (some d)) t) (dEnv (dF c (some d)) env v) (dTm (dF c (some d)) tm v) = ev (tmpF c t) env tm := by
  obtain ⟨_, hk⟩ := dF_spec hd
  have henv : dEnv (dF c (some d)) env v = v :: env := by rcases hk with ⟨e1, _⟩ | ⟨e1, _⟩ <;> rw [e1] <;> rfl
  unfold tmpF
  rw [show (dCx c (some d)).loc = d :: c.loc from rfl, locIdx_cons, if_neg h, henv]
  cases hl : locIdx t c.loc with
  | some i => rfl
  | none =>
    simp only [Option.map_none]
    rw [show (dCx c (some d)).keep = c.keep from rfl]
    cases hkp : PT.get (Pos.key t) c.keep with
    | none => rfl
    | some u =>
      show PT.get (Pos.key t) (dTm (dF c (some d)) tm v) = PT.get (Pos.key t) tm
      rcases hk with ⟨e1, _⟩ | ⟨e1, _⟩
      · rw [e1]; simp only [dTm]; rw [PT.get_key_set, if_neg h]
      · rw [e1]; rfl
theorem tr_ev (h : Tr ops ds c0 tm0 D c env tm) {t : Nat} {v : V} (hv : ev (tmpF c t) env tm = some v) :
    (∃ r ∈ D, r.o.dst = some t ∧ r.v = v) ∨ ((∀ r ∈ D, r.o.dst ≠ some t) ∧ ev (tmpF c0 t) [] tm0 = some v) := by
  induction h with
  | nil => exact .inr ⟨fun r hr => (by cases hr), hv⟩
  | @cons D c env tm r tr _ _ _ _ _ _ _ _ hd ih =>
    have ext : ((∃ m ∈ D, m.o.dst = some t ∧ m.v = v) ∨ ((∀ m ∈ D, m.o.dst ≠ some t) ∧ ev (tmpF c0 t) [] tm0 = some v)) → r.o.dst ≠ some t →
        ((∃ m ∈ r :: D, m.o.dst = some t ∧ m.v = v) ∨ ((∀ m ∈ r :: D, m.o.dst ≠ some t) ∧ ev (tmpF c0 t) [] tm0 = some v)) := fun hh hne => by
      rcases hh with ⟨m, hm, h1, h2⟩ | ⟨h1, h2⟩
      · exact .inl ⟨m, List.mem_cons_of_mem _ hm, h1, h2⟩
      · refine .inr ⟨fun m hm => ?_, h2⟩
        rcases List.mem_cons.1 hm with rfl | hm
        · exact hne
        · exact h1 m hm
    cases hdst : r.o.dst with
    | none =>
      rw [hdst] at hv hd
      exact ext (ih hv) (by rw [hdst]; simp)
    | some d =>
      rw [hdst] at hv hd
      by_cases e : t = d
      · subst e
        rw [ev_push_same hd] at hv
        injection hv with hv
        exact .inl ⟨r, List.mem_cons_self, hdst, hv⟩
      · rw [ev_push_ne hd e] at hv
        exact ext (ih hv) (by rw [hdst]; intro e'; injection e' with e'; exact e e'.symm)
end

/-! ### who writes a temporary -/
theorem lookN_mem {t m : Nat} : ∀ {l : List (Nat × Nat)}, (t, m) ∈ l → nodupN l = true → lookN t l = some m
  | [], h, _ => by cases h
  | (a, b) :: l, h, hn => by
    simp only [nodupN] at hn
    have hl : lookN a l = none := by
      cases e : lookN a l with
      | none => rfl
      | some x => rw [e] at hn; cases hn
    rw [hl] at hn
    simp only [lookN, bsel_eq, nbeq_iff, decide_eq_true_eq]
    rcases List.mem_cons.1 h with e | h
    · injection e with e1 e2; subst e1; subst e2; rw [if_pos rfl]
    · have := lookN_mem h hn
      by_cases e : a = t
      · rw [e] at hl; rw [hl] at this; cases this
      · rw [if_neg e]; exact this
theorem look_dst {ops : Array Oper} {m t : Nat} {o : Oper} (ho : ops[m]? = some o) (hd : o.dst = some t) (hn : nodupN (dstsOf ops) = true) : lookN t (dstsOf ops) = some m := by
  refine lookN_mem ?_ hn
  refine List.mem_filterMap.2 ⟨(o, m), ?_, by simp [hd]⟩
  rw [List.mem_zipIdx_iff_getElem?, Array.getElem?_toList]
  exact ho
theorem waits_spec {o : Oper} {i : Nat} (h : waits o i = true) : ∃ e ∈ o.after, Region.binds .any e = true ∧ e.on = i := by
  unfold waits at h
  obtain ⟨e, he, h2⟩ := List.any_eq_true.1 h
  rw [Bool.and_eq_true, nbeq_iff, decide_eq_true_iff] at h2
  exact ⟨e, Array.mem_toList_iff.1 he, h2.1, h2.2⟩

/-! ### guards -/
noncomputable def guardA (g : GF) (env : List V) (tm : PT V) : Option Bool := match g with
  | .no => some true
  | .bad => none
  | .mk x want => match ev x env tm with
    | some (.bool b) => some (b == want)
    | some _ => some false
    | none => none
theorem guardD_eq (g : GF) (env : List V) (tm : PT V) (yes no : RS) : guardD g env tm yes no = (match guardA g env tm with
    | some true => yes
    | some false => no
    | none => .bad) := by
  unfold guardD guardA
  cases g with
  | no => rfl
  | bad => rfl
  | mk x want =>
    simp only
    cases ev x env tm with
    | none => rfl
    | some v =>
      cases v <;> first
        | rfl
        | (rename_i b; simp only [bsel_eq]; cases (b == want) <;> rfl)
theorem wanted_ok {ops : Array Oper} {ρ : Ro} {c : Cx} {env : List V} {tm : PT V} {a : Act} {o : Oper} {b : Bool}
    (ht : ∀ j want d, o.guard = some (j, want) → (ops[j]?).bind (·.dst) = some d → TRel θ ρ c env tm a d) (h : guardA (gF c ops o) env tm = some b) :
    Region.wanted o (yielded ops a.tmps) = b := by
  unfold gF at h
  cases hgd : o.guard with
  | none =>
    rw [hgd] at h
    injection h with h; subst h
    simp [Region.wanted, hgd]
  | some gw =>
    obtain ⟨j, want⟩ := gw
    rw [hgd] at h
    simp only at h
    cases hd : (ops[j]?).bind (·.dst) with
    | none => rw [hd] at h; cases h
    | some d =>
      rw [hd] at h
      simp only [guardA] at h
      cases hv : ev (tmpF c d) env tm with
      | none => rw [hv] at h; cases h
      | some v =>
        rw [hv] at h
        obtain ⟨x, hx, hrel⟩ := ht j want d hgd hd v hv
        have hw : Region.wanted o (yielded ops a.tmps) = ((match x with | .bool b => some b | _ => none) == some want) := by
          simp only [Region.wanted, hgd, yielded, hd, Option.bind_some, hx]
          cases x <;> rfl
        rw [hw]
        by_cases hbo : ∃ b, v = .bool b
        · obtain ⟨b', rfl⟩ := hbo
          obtain rfl := vrel_bool hrel
          have h := Option.some.inj h
          rw [← h]
          cases b' <;> cases want <;> rfl
        · have hx : ∀ b, x ≠ .bool b := by
            intro b e; subst e
            cases v <;> simp only [VRel, ARel, CRel, ZRel, PRel, reduceCtorEq, false_and, and_false, exists_false, or_false] at hrel <;> first
              | exact hrel.elim
              | (injection hrel with hrel; subst hrel; exact hbo ⟨_, rfl⟩)
              | (obtain ⟨_, h⟩ := hrel; simp at h; done)
          have h2 : b = false := by
            cases v <;> first
              | exact absurd ⟨_, rfl⟩ hbo
              | exact (Option.some.inj h).symm
          subst h2
          cases x <;> first
            | rfl
            | exact absurd rfl (hx _)
end Go.Ev
end

section
set_option autoImplicit false
namespace Go.Ev
variable {θ : Nat → Int} {P : Program}

/-- what is known of an operation that the abstract run has done and the real one has not -/
def Pend (P : Program) (ops : Array Oper) (h0 : Heap) (done : List Nat) (fs : List (Nat × Fact)) (h : Heap) (ρ : Ro) (r : Rec) : Prop :=
  (guardA (gF r.c ops r.o) r.env r.tm = some false ∧ r.v = undefA) ∨
  (guardA (gF r.c ops r.o) r.env r.tm = some true ∧ ∃ f, tkF P r.c r.o = .mk f ∧ f r.env r.tm h = some r.v ∧ memNat r.i done = true ∧ (r.i, factOf f r.env r.tm r.v) ∈ fs) ∨
  (guardA (gF r.c ops r.o) r.env r.tm = some true ∧ ∃ f len z n b, mkF P r.c r.o = .mk f len ∧ f r.env r.tm = some (z, n) ∧ r.v = mkV len b ∧ r.gh = some b ∧ h.get b = some (.blk z n .exact) ∧ ρ b = none ∧ h0.next ≤ b)

structure Sim (θ : Nat → Int) (P : Program) (ops : Array Oper) (c0 : Cx) (tm0 : PT V) (ρ0 : Ro) (h0 : Heap) (w0 : World) (a0 : Act) (D : List Rec) (done : List Nat) (R : List (Nat × Nat)) (c : Cx) (env : List V) (tm : PT V) (h : Heap)
    (fs : List (Nat × Fact)) (ρ : Ro) (listed : Array Bool) (a : Act) (w : World) : Prop where
  tr : Tr ops (dstsOf ops) c0 tm0 D c env tm
  le : ρ0.le ρ
  heap : HRel θ ρ h w
  fram : Fram ρ0 h0 w0 ρ h w
  size : a.tmps.size = c0.nt
  defers : a.defers = a0.defers
  lsize : listed.size = ops.size
  plan : planOk ops (dstsOf ops) (D.map (·.i)) R = true
  inD : ∀ i, listed.getD i false = true → ∃ r ∈ D, r.i = i
  deps : ∀ i o, listed.getD i false = true → ops[i]? = some o → ∀ e ∈ o.after, Region.binds .any e = true → listed.getD e.on false = true
  got : ∀ r ∈ D, listed.getD r.i false = true → ∀ t, r.o.dst = some t → ∃ x, a.tmps[t]? = some x ∧ VRel θ ρ r.v x
  rest : ∀ t, (∀ r ∈ D, listed.getD r.i false = true → r.o.dst ≠ some t) → a.tmps[t]? = a0.tmps[t]?
  base : ∀ t v, ev (tmpF c0 t) [] tm0 = some v → ∃ x, a0.tmps[t]? = some x ∧ VRel θ ρ v x
  pend : ∀ r ∈ D, listed.getD r.i false = false → Pend P ops h0 done fs h ρ r
  far : ∀ r ∈ D, ∀ m ∈ D, r.i ≠ m.i → ∀ b, r.gh = some b → m.gh ≠ some b
  lt : ∀ r ∈ D, ∀ b, r.gh = some b → b < h.next
  cov : ∀ i, i < ops.size → (∃ r ∈ D, r.i = i) ∨ ∃ x ∈ R, x.2 = i

section
variable {ops : Array Oper} {c0 : Cx} {tm0 : PT V} {ρ0 : Ro} {h0 : Heap} {w0 : World} {a0 : Act} {D : List Rec} {done : List Nat} {R : List (Nat × Nat)} {c : Cx} {env : List V} {tm : PT V} {h : Heap}
  {fs : List (Nat × Fact)} {ρ : Ro} {listed : Array Bool} {a : Act} {w : World}

theorem getD_lt {l : Array Bool} {i : Nat} (h : l.getD i false = true) : i < l.size := by
  rcases Nat.lt_or_ge i l.size with h' | h'
  · exact h'
  · simp [Array.getElem?_eq_none h'] at h
theorem getD_tf {l : Array Bool} {i : Nat} (h : i < l.size) : l.getD i true = l.getD i false := by simp [h]
theorem getD_set_same {l : Array Bool} {i : Nat} (h : i < l.size) : (l.setIfInBounds i true).getD i false = true := by simp [h]

/-- the temporaries that an operation looks at -/
theorem oprel (S : Sim θ P ops c0 tm0 ρ0 h0 w0 a0 D done R c env tm h fs ρ listed a w) (hn : nodupN (dstsOf ops) = true) {r : Rec} {Dr : List Rec} (hsub : ∀ m ∈ Dr, m ∈ D) (htr : Tr ops (dstsOf ops) c0 tm0 Dr r.c r.env r.tm)
    (hni : memNat r.i (Dr.map (·.i)) = false) (hed : ∀ e ∈ r.o.after, Region.binds .any e = true → memNat e.on (Dr.map (·.i)) = true)
    (hready : ∀ e ∈ r.o.after, Region.binds .any e = true → listed.getD e.on false = true) (hun : listed.getD r.i false = false) {t : Nat} (ht : tmpOk ops (dstsOf ops) r.i r.o t = true) :
    TRel θ ρ r.c r.env r.tm a t := by
  have who : ∀ m ∈ D, m.o.dst = some t → lookN t (dstsOf ops) = some m.i := fun m hm hd => look_dst (tr_ops S.tr m hm) hd hn
  have two : ∀ m ∈ D, m.o.dst = some t → waits r.o m.i = true ∨ waits m.o r.i = true := fun m hm hd => by
    have e := who m hm hd
    unfold tmpOk at ht
    rw [e] at ht
    simp only [tr_ops S.tr m hm, bor_eq, Bool.or_eq_true] at ht
    exact ht
  have before : ∀ m ∈ D, m.o.dst = some t → listed.getD m.i false = true → m ∈ Dr := fun m hm hd hl => by
    rcases two m hm hd with h1 | h1
    · obtain ⟨e, he, hb, hon⟩ := waits_spec h1
      have := memNat_iff.1 (hed e he hb)
      obtain ⟨m', hm', e'⟩ := List.mem_map.1 this
      rw [← tr_inj S.tr m' (hsub m' hm') m hm (by rw [e', hon])]
      exact hm'
    · obtain ⟨e, he, hb, hon⟩ := waits_spec h1
      have := S.deps m.i m.o hl (tr_ops S.tr m hm) e he hb
      rw [hon, hun] at this; cases this
  intro v hv
  rcases tr_ev htr hv with ⟨m, hm, hd, rfl⟩ | ⟨hno, hbase⟩
  · rcases two m (hsub m hm) hd with h1 | h1
    · obtain ⟨e, he, hb, hon⟩ := waits_spec h1
      have := hready e he hb
      rw [hon] at this
      exact S.got m (hsub m hm) this t hd
    · obtain ⟨e, he, hb, hon⟩ := waits_spec h1
      have := tr_edges htr m hm e he hb
      rw [hon] at this
      exact absurd this (memNat_no.1 hni)
  · obtain ⟨x, hx, hr⟩ := S.base t v hbase
    exact ⟨x, by rw [S.rest t fun m hm hl hd => hno m (before m hm hd hl) hd]; exact hx, hr⟩

theorem operand_tmp {ds : List (Nat × Nat)} {i : Nat} {o : Oper} (hx : ∀ x ∈ o.op.operands, operandOk ops ds i o x = true) : ∀ t, Operand.tmp t ∈ o.op.operands → tmpOk ops ds i o t = true := fun _ ht => hx _ ht
theorem guard_tmp {ds : List (Nat × Nat)} {i : Nat} {o : Oper} (hg : guardOk ops ds i o = true) {j : Nat} {want : Bool} {d : Nat} (hgd : o.guard = some (j, want)) (hd : (ops[j]?).bind (·.dst) = some d) : tmpOk ops ds i o d = true := by
  unfold guardOk at hg
  rw [hgd] at hg
  simp only [hd] at hg
  exact hg

/-- an operation that the abstract run has done is carried out -/
theorem sim_exec (S : Sim θ P ops c0 tm0 ρ0 h0 w0 a0 D done R c env tm h fs ρ listed a w) (hn : nodupN (dstsOf ops) = true) {r : Rec} (hr : r ∈ D) (hun : listed.getD r.i false = false)
    (hready : ∀ e ∈ r.o.after, Region.binds .any e = true → listed.getD e.on false = true) {ρ' : Ro} {w' : World} {x : Value} (hle : ρ.le ρ') (hh : HRel θ ρ' h w') (hf : Fram ρ0 h0 w0 ρ' h w') (hv : VRel θ ρ' r.v x)
    (hgh : ∀ m ∈ D, m.i ≠ r.i → ∀ b, m.gh = some b → ρ b = none → ρ' b = none) (hnt : ∀ t, r.o.dst = some t → t < c0.nt) :
    Sim θ P ops c0 tm0 ρ0 h0 w0 a0 D done R c env tm h fs ρ' (listed.setIfInBounds r.i true) (a.put r.o.dst x) w' := by
  have hop := tr_ops S.tr r hr
  have hlt : r.i < listed.size := by rw [S.lsize]; exact (Array.getElem?_eq_some_iff.1 hop).1
  have hget : ∀ i, (listed.setIfInBounds r.i true).getD i false = true → i = r.i ∨ listed.getD i false = true := fun i hi => by
    by_cases e : r.i = i
    · exact .inl e.symm
    · rw [getD_set_ne false e] at hi; exact .inr hi
  have huniq : ∀ m ∈ D, ∀ t, m.o.dst = some t → r.o.dst = some t → m = r := fun m hm t h1 h2 => by
    have e1 := look_dst (tr_ops S.tr m hm) h1 hn
    have e2 := look_dst hop h2 hn
    rw [e1] at e2; injection e2 with e2
    exact tr_inj S.tr m hm r hr e2
  exact {
    tr := S.tr
    le := Ro.le_trans S.le hle
    heap := hh
    fram := hf
    size := by rw [put_size]; exact S.size
    defers := by rw [put_defers]; exact S.defers
    lsize := by rw [Array.size_setIfInBounds]; exact S.lsize
    plan := S.plan
    inD := fun i hi => by
      rcases hget i hi with e | hi
      · exact ⟨r, hr, e.symm⟩
      · exact S.inD i hi
    deps := fun i o hi ho e he hb => by
      rcases hget i hi with rfl | hi
      · rw [hop] at ho; injection ho with ho; subst ho
        exact getD_set_true (hready e he hb)
      · exact getD_set_true (S.deps i o hi ho e he hb)
    got := fun m hm hl t ht => by
      by_cases e : r.o.dst = some t
      · have em := huniq m hm t ht e
        subst em
        refine ⟨x, ?_, hv⟩
        rw [e]
        exact put_get (by rw [S.size]; exact hnt t e)
      · have hne : m.i ≠ r.i := fun e' => by
          have := tr_inj S.tr m hm r hr e'
          rw [this] at ht; exact e ht
        rcases hget m.i hl with e' | hl
        · exact absurd e' hne
        · obtain ⟨y, hy, hrel⟩ := S.got m hm hl t ht
          refine ⟨y, ?_, hrel.mono hle⟩
          cases hd : r.o.dst with
          | none => exact hy
          | some d => rw [put_get_ne (fun e' => e (by rw [hd, e']))]; exact hy
    rest := fun t hno => by
      have h1 : r.o.dst ≠ some t := hno r hr (getD_set_same hlt)
      have h2 := S.rest t fun m hm hl => hno m hm (getD_set_true hl)
      cases hd : r.o.dst with
      | none => exact h2
      | some d => rw [put_get_ne (fun e' => h1 (by rw [hd, e']))]; exact h2
    base := fun t v hb => let ⟨y, h1, h2⟩ := S.base t v hb; ⟨y, h1, h2.mono hle⟩
    pend := fun m hm hl => by
      have hne : m.i ≠ r.i := fun e => by rw [e, getD_set_same hlt] at hl; cases hl
      rw [getD_set_ne false (Ne.symm hne)] at hl
      rcases S.pend m hm hl with h1 | h1 | ⟨h1, f, len, z, n, b, h2, h3, h4, h5, h6, h7, h8⟩
      · exact .inl h1
      · exact .inr (.inl h1)
      · exact .inr (.inr ⟨h1, f, len, z, n, b, h2, h3, h4, h5, h6, hgh m hm hne b h5 h7, h8⟩)
    far := S.far
    lt := S.lt
    cov := S.cov }

/-- one that waits is carried out -/
theorem pend_ok {call : CallF} {Q : Exit → Act → World → Prop} {K : Act → World → Prop} (hE : Env θ P c0.gl call) (hn : nodupN (dstsOf ops) = true) (hg0 : GOk θ c0.gl ρ0) (S : Sim θ P ops c0 tm0 ρ0 h0 w0 a0 D done R c env tm h fs ρ listed a w)
    {r : Rec} (hr : r ∈ D) (hun : listed.getD r.i false = false) (hready : ∀ e ∈ r.o.after, Region.binds .any e = true → listed.getD e.on false = true)
    (hK : ∀ ρ' a' w', Sim θ P ops c0 tm0 ρ0 h0 w0 a0 D done R c env tm h fs ρ' (listed.setIfInBounds r.i true) a' w' → K a' w') : wpOp P ops Q r.i K a w := by
  have hop := tr_ops S.tr r hr
  obtain ⟨Dr, hsub, htr, hni, hed, hx, hgd, hd⟩ := tr_split S.tr r hr
  have hcx := tr_cx htr
  have hg : GOk θ r.c.gl ρ := by rw [hcx.1]; exact hg0.mono S.le
  have hT : ∀ t, tmpOk ops (dstsOf ops) r.i r.o t = true → TRel θ ρ r.c r.env r.tm a t := fun t ht => oprel S hn hsub htr hni hed hready hun ht
  have hto : ∀ t, Operand.tmp t ∈ r.o.op.operands → TRel θ ρ r.c r.env r.tm a t := fun t ht => hT t (operand_tmp hx t ht)
  have hw : ∀ b, guardA (gF r.c ops r.o) r.env r.tm = some b → Region.wanted r.o (yielded ops a.tmps) = b := fun b hb => wanted_ok (fun j want d h1 h2 => hT d (guard_tmp hgd h1 h2)) hb
  have hnt : ∀ t, r.o.dst = some t → t < c0.nt := fun t ht => by
    rw [ht] at hd
    have := (dF_spec hd).1
    rw [hcx.2.2] at this; exact this
  unfold wpOp
  rw [hop]
  simp only
  rcases S.pend r hr hun with ⟨h1, h2⟩ | ⟨h1, f, h2, h3, _, _⟩ | ⟨h1, f, len, z, n, b, h2, h3, h4, h5, h6, h7, h8⟩
  · rw [hw false h1]
    simp only [Bool.false_eq_true, if_false]
    exact hK ρ _ w (sim_exec S hn hr hun hready (Ro.le_refl _) S.heap S.fram (by rw [h2]; exact undef_rel _) (fun _ _ _ _ _ hb => hb) hnt)
  · rw [hw true h1]
    simp only [if_true]
    refine .inl ?_
    refine tk_wp (by rw [hcx.1]; exact hE) h2 hg S.heap hto h3 fun x hx => ?_
    exact hK ρ _ w (sim_exec S hn hr hun hready (Ro.le_refl _) S.heap S.fram hx (fun _ _ _ _ _ hb => hb) hnt)
  · rw [hw true h1]
    simp only [if_true]
    refine .inl ?_
    obtain ⟨arr, e, hrun, hz, t⟩ := mk_fill (a := a) (w := w) h2 hg hto h3
    unfold Oper.wp
    rw [hrun]
    simp only [Oper.upon]
    obtain ⟨g1, g2⟩ := S.heap.fill (e := e) h6 h7 (S.lt r hr b h5) hz t
    refine hK _ _ _ (sim_exec S hn hr hun hready g2 g1 (S.fram.fill h8) ?_ (fun m hm hne b' hb' hnone => ?_) hnt)
    · rw [h4]
      cases len with
      | none => exact ⟨_, Ro.ext_same _ _ _, rfl⟩
      | some k => exact ⟨_, Ro.ext_same _ _ _, rfl⟩
    · rw [Ro.ext_ne _ _ (fun e => S.far r hr m hm (Ne.symm hne) b h5 (by rw [← e]; exact hb'))]
      exact hnone
end
end Go.Ev
end

section
set_option autoImplicit false
namespace Go.Ev
variable {θ : Nat → Int} {P : Program}

section
variable {ops : Array Oper} {c0 : Cx} {tm0 : PT V} {ρ0 : Ro} {h0 : Heap} {w0 : World} {a0 : Act} {D : List Rec} {done : List Nat} {R : List (Nat × Nat)} {c : Cx} {env : List V} {tm : PT V} {h : Heap}
  {fs : List (Nat × Fact)} {ρ : Ro} {listed : Array Bool} {a : Act} {w : World}

/-! ### the plan -/
theorem plan_cons {ds : List (Nat × Nat)} {dn : List Nat} {k i : Nat} (hp : planOk ops ds dn ((k, i) :: R) = true) : ∃ o, ops[i]? = some o ∧ memNat i dn = false ∧ (∀ e ∈ o.after, Region.binds .any e = true → memNat e.on dn = true) ∧
    (∀ x ∈ o.op.operands, operandOk ops ds i o x = true) ∧ guardOk ops ds i o = true ∧ kindOk ops k i R = true ∧ planOk ops ds (i :: dn) R = true := by
  simp only [planOk] at hp
  split at hp
  · rename_i o ho
    simp only [band_eq, Bool.and_eq_true, Bool.not_eq_true', List.all_eq_true, Array.mem_toList_iff, bor_eq, Bool.or_eq_true] at hp
    obtain ⟨⟨h1, h2⟩, ⟨h3, h4⟩, h5, h6⟩ := hp
    exact ⟨o, ho, h1, fun e he hb => (h2 e he).resolve_left (by simp [hb]), h3, h4, h5, h6⟩
  · cases hp
theorem plan_fresh {ds : List (Nat × Nat)} : ∀ {R : List (Nat × Nat)} {dn : List Nat}, planOk ops ds dn R = true → ∀ x ∈ R, x.2 ∉ dn
  | [], _, _, x, hx => by cases hx
  | (k, i) :: R, dn, hp, x, hx => by
    obtain ⟨o, _, h1, _, _, _, _, h2⟩ := plan_cons hp
    rcases List.mem_cons.1 hx with rfl | hx
    · exact memNat_no.1 h1
    · exact fun hd => plan_fresh h2 x hx (List.mem_cons_of_mem _ hd)
theorem plan_un (S : Sim θ P ops c0 tm0 ρ0 h0 w0 a0 D done R c env tm h fs ρ listed a w) : ∀ x ∈ R, listed.getD x.2 false = false := fun x hx => by
  cases hl : listed.getD x.2 false with
  | false => rfl
  | true =>
    obtain ⟨r, hr, e⟩ := S.inD x.2 hl
    exact absurd (List.mem_map.2 ⟨r, hr, e⟩) (plan_fresh S.plan x hx)
theorem later_waits : ∀ {l : List (Nat × Nat)} {since : List Nat}, laterOk ops since l = true → ∀ x ∈ l, ∃ o s, ops[x.2]? = some o ∧ waits o s = true ∧ (s ∈ since ∨ s ∈ l.map (·.2))
  | [], _, _, x, hx => by cases hx
  | (k, i) :: l, since, hp, x, hx => by
    simp only [laterOk] at hp
    split at hp
    · rename_i o ho
      rw [band_eq, Bool.and_eq_true] at hp
      rcases List.mem_cons.1 hx with rfl | hx
      · obtain ⟨s, hs, hw⟩ := List.any_eq_true.1 hp.1
        exact ⟨o, s, ho, hw, .inl hs⟩
      · obtain ⟨o', s, h1, h2, h3⟩ := later_waits hp.2 x hx
        refine ⟨o', s, h1, h2, ?_⟩
        rcases h3 with h3 | h3
        · rcases List.mem_cons.1 h3 with rfl | h3
          · exact .inr (by simp)
          · exact .inl h3
        · exact .inr (by simp at h3 ⊢; exact .inr h3)
    · cases hp

/-! ### the abstract run goes on over what does not act -/
theorem HRel.newGhost (hr : HRel θ ρ h w) (o : AObj) : HRel θ ρ (h.new o) w := by
  have hsub : ∀ b o', (h.new o).get b = some o' → ∀ p, ρ b = some p → h.get b = some o' := fun b o' hb p hp => by
    rw [Heap.get_new] at hb
    by_cases e : b = h.next
    · rw [e, hr.fresh] at hp; cases hp
    · rw [if_neg e] at hb; exact hb
  exact ⟨fun b p hp => ⟨Nat.lt_succ_of_lt (hr.dom b p hp).1, (hr.dom b p hp).2⟩, fun b o' p hb hp => hr.obj b o' p (hsub b o' hb p hp) hp,
    fun x y p q o1 o2 hx hy hp hq e => hr.inj x y p q o1 o2 (hsub x o1 hx p hp) (hsub y o2 hy q hq) hp hq e,
    fun q z hz => ⟨(hr.frz q z hz).1, fun ⟨b, p, o', hb, hp, e⟩ => (hr.frz q z hz).2 ⟨b, p, o', hsub b o' hb p hp, hp, e⟩⟩⟩
theorem Fram.newGhost (hr : HRel θ ρ h w) (f : Fram ρ0 h0 w0 ρ h w) (o : AObj) : Fram ρ0 h0 w0 ρ (h.new o) w := by
  have hsub : ∀ b o', (h.new o).get b = some o' → ∀ p, ρ b = some p → h.get b = some o' := fun b o' hb p hp => by
    rw [Heap.get_new] at hb
    by_cases e : b = h.next
    · rw [e, hr.fresh] at hp; cases hp
    · rw [if_neg e] at hb; exact hb
  refine ⟨f.grow, fun q hq hn => ?_, Nat.le_succ_of_le f.next, fun b hb hn => ?_, f.frz, f.io⟩
  · obtain ⟨h1, h2⟩ := f.keep q hq hn
    exact ⟨h1, fun ⟨b, p, o', hb, hp, e⟩ => h2 ⟨b, p, o', hsub b o' hb p hp, hp, e⟩⟩
  · obtain ⟨h1, h2⟩ := f.ghost b hb hn
    refine ⟨h1, ?_⟩
    rw [Heap.get_new, if_neg (by have := f.next; omega)]; exact h2

theorem facts_hold {chk : List Nat} {h' : Heap} (hf : factsOk chk fs h' = true) {i : Nat} {f : TkR} {env : List V} {tm : PT V} {v : V} (hm : (i, factOf f env tm v) ∈ fs) (hc : memNat i chk = true) : f env tm h' = some v := by
  have := List.all_eq_true.1 hf _ hm
  rw [bor_eq, Bool.or_eq_true] at this
  rcases this with h1 | h1
  · simp [hc] at h1
  · change (match f env tm h' with
      | some u => vEq v u
      | none => false) = true at h1
    split at h1
    · rename_i u hu
      rw [hu, vEq_eq h1]
    · cases h1

/-- one more operation is done by the abstract run alone -/
theorem sim_push {k i : Nat} (S : Sim θ P ops c0 tm0 ρ0 h0 w0 a0 D done ((k, i) :: R) c env tm h fs ρ listed a w) {o : Oper} (ho : ops[i]? = some o) (hd : dF c o.dst ≠ .bad) {v : V} {gh : Option Nat} {h' : Heap} {fs' : List (Nat × Fact)} {done' : List Nat}
    (hh : HRel θ ρ h' w) (hf : Fram ρ0 h0 w0 ρ h' w) (hnew : Pend P ops h0 done' fs' h' ρ ⟨i, o, c, env, tm, v, gh⟩)
    (hold : ∀ r ∈ D, listed.getD r.i false = false → Pend P ops h0 done fs h ρ r → Pend P ops h0 done' fs' h' ρ r) (hnx : h.next ≤ h'.next) (hgh : ∀ b, gh = some b → h.next ≤ b ∧ b < h'.next) :
    Sim θ P ops c0 tm0 ρ0 h0 w0 a0 (⟨i, o, c, env, tm, v, gh⟩ :: D) done' R (dCx c o.dst) (dEnv (dF c o.dst) env v) (dTm (dF c o.dst) tm v) h' fs' ρ listed a w := by
  obtain ⟨o', ho', h1, h2, h3, h4, h5, h6⟩ := plan_cons S.plan
  rw [ho] at ho'; injection ho' with ho'; subst ho'
  have hun := plan_un S (k, i) List.mem_cons_self
  exact {
    tr := .cons ⟨i, o, c, env, tm, v, gh⟩ S.tr rfl rfl rfl ho h1 h2 h3 h4 hd
    le := S.le
    heap := hh
    fram := hf
    size := S.size
    defers := S.defers
    lsize := S.lsize
    plan := h6
    inD := fun j hj => let ⟨r, hr, e⟩ := S.inD j hj; ⟨r, List.mem_cons_of_mem _ hr, e⟩
    deps := S.deps
    got := fun r hr hl t ht => by
      rcases List.mem_cons.1 hr with rfl | hr
      · have hl' : listed.getD i false = true := hl
        rw [hun] at hl'; cases hl'
      · exact S.got r hr hl t ht
    rest := fun t hno => S.rest t fun r hr hl => hno r (List.mem_cons_of_mem _ hr) hl
    base := S.base
    pend := fun r hr hl => by
      rcases List.mem_cons.1 hr with rfl | hr
      · exact hnew
      · exact hold r hr hl (S.pend r hr hl)
    far := fun r hr m hm hne b hb hb' => by
      rcases List.mem_cons.1 hr with rfl | hr <;> rcases List.mem_cons.1 hm with rfl | hm
      · exact hne rfl
      · have := S.lt m hm b hb'
        have := (hgh b hb).1
        omega
      · have := S.lt r hr b hb
        have := (hgh b hb').1
        omega
      · exact S.far r hr m hm hne b hb hb'
    lt := fun r hr b hb => by
      rcases List.mem_cons.1 hr with rfl | hr
      · exact (hgh b hb).2
      · exact Nat.lt_of_lt_of_le (S.lt r hr b hb) hnx
    cov := fun j hj => by
      rcases S.cov j hj with ⟨r, hr, e⟩ | ⟨x, hx, e⟩
      · exact .inl ⟨r, List.mem_cons_of_mem _ hr, e⟩
      · rcases List.mem_cons.1 hx with rfl | hx
        · exact .inl ⟨_, List.mem_cons_self, e⟩
        · exact .inr ⟨x, hx, e⟩ }

theorem pend_mono {ops : Array Oper} {done done' : List Nat} {fs fs' : List (Nat × Fact)} {r : Rec} (h1 : ∀ i, memNat i done = true → memNat i done' = true) (h2 : ∀ x ∈ fs, x ∈ fs') (hp : Pend P ops h0 done fs h ρ r) : Pend P ops h0 done' fs' h ρ r := by
  rcases hp with hp | ⟨p1, f, p2, p3, p4, p5⟩ | hp
  · exact .inl hp
  · exact .inr (.inl ⟨p1, f, p2, p3, h1 _ p4, h2 _ p5⟩)
  · exact .inr (.inr hp)

theorem advance {call : CallF} {k i : Nat} (hk : k = 0 ∨ k = 2) (S : Sim θ P ops c0 tm0 ρ0 h0 w0 a0 D done ((k, i) :: R) c env tm h fs ρ listed a w) (hb : runDr call (drF P ops c done ((k, i) :: R)) env tm h fs ≠ .bad) :
    ∃ r done' c' env' tm' h' fs', r.i = i ∧ Sim θ P ops c0 tm0 ρ0 h0 w0 a0 (r :: D) done' R c' env' tm' h' fs' ρ listed a w ∧
      runDr call (drF P ops c done ((k, i) :: R)) env tm h fs = runDr call (drF P ops c' done' R) env' tm' h' fs' := by
  obtain ⟨o, ho, _⟩ := plan_cons S.plan
  have none_ : ∀ (done' : List Nat), (∀ i, memNat i done = true → memNat i done' = true) → guardA (gF c ops o) env tm = some false → putD (dF c o.dst) env tm (runDr call (drF P ops (dCx c o.dst) done' R)) undefA h fs ≠ .bad →
      ∃ r done'' c' env' tm' h' fs', r.i = i ∧ Sim θ P ops c0 tm0 ρ0 h0 w0 a0 (r :: D) done'' R c' env' tm' h' fs' ρ listed a w ∧
        putD (dF c o.dst) env tm (runDr call (drF P ops (dCx c o.dst) done' R)) undefA h fs = runDr call (drF P ops c' done'' R) env' tm' h' fs' := by
    intro done' hm hga hb
    have hd : dF c o.dst ≠ .bad := by intro e; rw [e] at hb; exact hb rfl
    exact ⟨⟨i, o, c, env, tm, undefA, none⟩, done', _, _, _, h, fs, rfl, sim_push S ho hd S.heap S.fram (.inl ⟨hga, rfl⟩) (fun r hr hl hp => pend_mono hm (fun _ hx => hx) hp) (Nat.le_refl _) (fun b hb => by cases hb), putD_eq hd _ _ _ _ _ _⟩
  rcases hk with rfl | rfl
  · have e0 : drF P ops c done ((0, i) :: R) = .take i (gF c ops o) (dF c o.dst) (tkF P c o) (drF P ops (dCx c o.dst) (i :: done) R) := by simp only [drF, ho]
    have hm : ∀ j, memNat j done = true → memNat j (i :: done) = true := fun j hj => memNat_iff.2 (List.mem_cons_of_mem _ (memNat_iff.1 hj))
    rw [e0] at hb ⊢
    simp only [runDr, guardD_eq] at hb ⊢
    cases hga : guardA (gF c ops o) env tm with
    | none => rw [hga] at hb; exact absurd rfl hb
    | some b =>
      rw [hga] at hb
      cases b with
      | false => exact none_ _ hm hga hb
      | true =>
        simp only at hb ⊢
        cases hf : tkF P c o with
        | bad => rw [hf] at hb; exact absurd rfl hb
        | mk f =>
          rw [hf] at hb
          simp only at hb ⊢
          cases hv : f env tm h with
          | none => rw [hv] at hb; exact absurd rfl hb
          | some v =>
            rw [hv] at hb
            simp only at hb ⊢
            have hd : dF c o.dst ≠ .bad := by intro e; rw [e] at hb; exact hb rfl
            refine ⟨⟨i, o, c, env, tm, v, none⟩, i :: done, _, _, _, h, (i, factOf f env tm v) :: fs, rfl, sim_push S ho hd S.heap S.fram (.inr (.inl ⟨hga, f, hf, hv, memNat_iff.2 List.mem_cons_self, List.mem_cons_self⟩))
              (fun r hr hl hp => pend_mono hm (fun _ hx => List.mem_cons_of_mem _ hx) hp) (Nat.le_refl _) (fun b hb => by cases hb), putD_eq hd _ _ _ _ _ _⟩
  · have e0 : drF P ops c done ((2, i) :: R) = .make done (gF c ops o) (dF c o.dst) (mkF P c o) (drF P ops (dCx c o.dst) done R) := by simp only [drF, ho]
    rw [e0] at hb ⊢
    simp only [runDr, guardD_eq] at hb ⊢
    cases hga : guardA (gF c ops o) env tm with
    | none => rw [hga] at hb; exact absurd rfl hb
    | some b =>
      rw [hga] at hb
      cases b with
      | false => exact none_ _ (fun _ hj => hj) hga hb
      | true =>
        simp only at hb ⊢
        cases hf : mkF P c o with
        | bad => rw [hf] at hb; exact absurd rfl hb
        | mk f len =>
          rw [hf] at hb
          simp only at hb ⊢
          cases hv : f env tm with
          | none => rw [hv] at hb; exact absurd rfl hb
          | some zn =>
            obtain ⟨z, n⟩ := zn
            rw [hv] at hb
            simp only [effK] at hb ⊢
            cases hfo : factsOk done fs (h.new (.blk z n .exact)) with
            | false => rw [hfo] at hb; exact absurd rfl hb
            | true =>
              rw [hfo] at hb
              rw [bsel_true] at hb ⊢
              have hd : dF c o.dst ≠ .bad := by intro e; rw [e] at hb; exact hb rfl
              refine ⟨⟨i, o, c, env, tm, mkV len h.next, some h.next⟩, done, _, _, _, h.new (.blk z n .exact), fs, rfl, sim_push S ho hd (S.heap.newGhost _) (S.fram.newGhost S.heap _)
                (.inr (.inr ⟨hga, f, len, z, n, h.next, hf, hv, rfl, rfl, by rw [Heap.get_new, if_pos rfl], S.heap.fresh, S.fram.next⟩)) (fun r hr hl hp => ?_) (Nat.le_succ _) (fun b hb => by injection hb with hb; subst hb; exact ⟨Nat.le_refl _, Nat.lt_succ_self _⟩), putD_eq hd _ _ _ _ _ _⟩
              rcases hp with hp | ⟨p1, f', p2, p3, p4, p5⟩ | ⟨p1, f', len', z', n', b', p2, p3, p4, p5, p6, p7, p8⟩
              · exact .inl hp
              · exact .inr (.inl ⟨p1, f', p2, facts_hold hfo p5 p4, p4, p5⟩)
              · refine .inr (.inr ⟨p1, f', len', z', n', b', p2, p3, p4, p5, ?_, p7, p8⟩)
                have := S.lt r hr b' p5
                rw [Heap.get_new, if_neg (by omega)]; exact p6
end
end Go.Ev
end

section
set_option autoImplicit false
namespace Go.Ev
variable {θ : Nat → Int} {P : Program}

section
variable {ops : Array Oper} {c0 : Cx} {tm0 : PT V} {ρ0 : Ro} {h0 : Heap} {w0 : World} {a0 : Act} {D : List Rec} {done : List Nat} {R : List (Nat × Nat)} {c : Cx} {env : List V} {tm : PT V} {h : Heap}
  {fs : List (Nat × Fact)} {ρ : Ro} {listed : Array Bool} {a : Act} {w : World}

/-- an operation that acts is done by both -/
theorem sim_act {k i : Nat} (S : Sim θ P ops c0 tm0 ρ0 h0 w0 a0 D done ((k, i) :: R) c env tm h fs ρ listed a w) (hn : nodupN (dstsOf ops) = true) {o : Oper} (ho : ops[i]? = some o) (hd : dF c o.dst ≠ .bad)
    (hready : ∀ e ∈ o.after, Region.binds .any e = true → listed.getD e.on false = true) {v : V} {x : Value} {h' : Heap} {ρ' : Ro} {w' : World} (hle : ρ.le ρ') (hh : HRel θ ρ' h' w') (hf : Fram ρ h w ρ' h' w') (hv : VRel θ ρ' v x)
    (hold : ∀ r ∈ D, listed.getD r.i false = false → Pend P ops h0 done fs h ρ r → Pend P ops h0 done fs h' ρ' r) :
    Sim θ P ops c0 tm0 ρ0 h0 w0 a0 (⟨i, o, c, env, tm, v, none⟩ :: D) done R (dCx c o.dst) (dEnv (dF c o.dst) env v) (dTm (dF c o.dst) tm v) h' fs ρ' (listed.setIfInBounds i true) (a.put o.dst x) w' := by
  obtain ⟨o', ho', h1, h2, h3, h4, h5, h6⟩ := plan_cons S.plan
  rw [ho] at ho'; injection ho' with ho'; subst ho'
  have hun := plan_un S (k, i) List.mem_cons_self
  have hlt : i < listed.size := by rw [S.lsize]; exact (Array.getElem?_eq_some_iff.1 ho).1
  have hcx := tr_cx S.tr
  have hnt : ∀ t, o.dst = some t → t < c0.nt := fun t ht => by
    rw [ht] at hd
    have := (dF_spec hd).1
    rw [hcx.2.2] at this; exact this
  have hget : ∀ j, (listed.setIfInBounds i true).getD j false = true → j = i ∨ listed.getD j false = true := fun j hj => by
    by_cases e : i = j
    · exact .inl e.symm
    · rw [getD_set_ne false e] at hj; exact .inr hj
  have hne : ∀ r ∈ D, r.i ≠ i := fun r hr e => memNat_no.1 h1 (List.mem_map.2 ⟨r, hr, e⟩)
  have hdst : ∀ r ∈ D, ∀ t, r.o.dst = some t → o.dst ≠ some t := fun r hr t ht e => by
    have e1 := look_dst (tr_ops S.tr r hr) ht hn
    have e2 := look_dst ho e hn
    rw [e1] at e2; injection e2 with e2
    exact hne r hr e2
  have hput : ∀ t, o.dst ≠ some t → (a.put o.dst x).tmps[t]? = a.tmps[t]? := fun t ht => by
    cases e : o.dst with
    | none => rfl
    | some d => exact put_get_ne (fun e' => ht (by rw [e, e']))
  exact {
    tr := .cons ⟨i, o, c, env, tm, v, none⟩ S.tr rfl rfl rfl ho h1 h2 h3 h4 hd
    le := Ro.le_trans S.le hle
    heap := hh
    fram := S.fram.trans hf
    size := by rw [put_size]; exact S.size
    defers := by rw [put_defers]; exact S.defers
    lsize := by rw [Array.size_setIfInBounds]; exact S.lsize
    plan := h6
    inD := fun j hj => by
      rcases hget j hj with e | hj
      · exact ⟨_, List.mem_cons_self, e.symm⟩
      · obtain ⟨r, hr, e⟩ := S.inD j hj
        exact ⟨r, List.mem_cons_of_mem _ hr, e⟩
    deps := fun j oj hj hoj e he hb => by
      rcases hget j hj with rfl | hj
      · rw [ho] at hoj; injection hoj with hoj; subst hoj
        exact getD_set_true (hready e he hb)
      · exact getD_set_true (S.deps j oj hj hoj e he hb)
    got := fun r hr hl t ht => by
      rcases List.mem_cons.1 hr with rfl | hr
      · refine ⟨x, ?_, hv⟩
        have ht' : o.dst = some t := ht
        rw [ht']
        exact put_get (by rw [S.size]; exact hnt t ht')
      · have hl' : listed.getD r.i false = true := (hget r.i hl).resolve_left (hne r hr)
        obtain ⟨y, hy, hrel⟩ := S.got r hr hl' t ht
        exact ⟨y, by rw [hput t (hdst r hr t ht)]; exact hy, hrel.mono hle⟩
    rest := fun t hno => by
      rw [hput t (hno _ List.mem_cons_self (getD_set_same hlt))]
      exact S.rest t fun r hr hl => hno r (List.mem_cons_of_mem _ hr) (getD_set_true hl)
    base := fun t v hb => let ⟨y, h1, h2⟩ := S.base t v hb; ⟨y, h1, h2.mono hle⟩
    pend := fun r hr hl => by
      rcases List.mem_cons.1 hr with rfl | hr
      · have hl' : (listed.setIfInBounds i true).getD i false = false := hl
        rw [getD_set_same hlt] at hl'; cases hl'
      · rw [getD_set_ne false (Ne.symm (hne r hr))] at hl
        exact hold r hr hl (S.pend r hr hl)
    far := fun r hr m hm hne b hb hb' => by
      rcases List.mem_cons.1 hr with rfl | hr
      · cases hb
      · rcases List.mem_cons.1 hm with rfl | hm
        · cases hb'
        · exact S.far r hr m hm hne b hb hb'
    lt := fun r hr b hb => by
      rcases List.mem_cons.1 hr with rfl | hr
      · cases hb
      · exact Nat.lt_of_lt_of_le (S.lt r hr b hb) hf.next
    cov := fun j hj => by
      rcases S.cov j hj with ⟨r, hr, e⟩ | ⟨x, hx, e⟩
      · exact .inl ⟨r, List.mem_cons_of_mem _ hr, e⟩
      · rcases List.mem_cons.1 hx with rfl | hx
        · exact .inl ⟨_, List.mem_cons_self, e⟩
        · exact .inr ⟨x, hx, e⟩ }

theorem act_ok {call : CallF} {Q : Exit → Act → World → Prop} {K : Act → World → Prop} (hE : Env θ P c0.gl call) (hn : nodupN (dstsOf ops) = true) (hg0 : GOk θ c0.gl ρ0) {k i : Nat} (hk0 : k ≠ 0) (hk2 : k ≠ 2)
    (S : Sim θ P ops c0 tm0 ρ0 h0 w0 a0 D done ((k, i) :: R) c env tm h fs ρ listed a w) (hready : ∀ o, ops[i]? = some o → ∀ e ∈ o.after, Region.binds .any e = true → listed.getD e.on false = true)
    (hb : runDr call (drF P ops c done ((k, i) :: R)) env tm h fs ≠ .bad)
    (hK : ∀ r c' env' tm' h' ρ' a' w', Sim θ P ops c0 tm0 ρ0 h0 w0 a0 (r :: D) done R c' env' tm' h' fs ρ' (listed.setIfInBounds i true) a' w' → runDr call (drF P ops c' done R) env' tm' h' fs ≠ .bad →
      (∀ tm2 g, RHas (runDr call (drF P ops c' done R) env' tm' h' fs) tm2 g → RHas (runDr call (drF P ops c done ((k, i) :: R)) env tm h fs) tm2 g) → K a' w') : wpOp P ops Q i K a w := by
  obtain ⟨o, ho, hni, hed, hx, hgd, hkd, _⟩ := plan_cons S.plan
  have hrd := hready o ho
  have hun := plan_un S (k, i) List.mem_cons_self
  have hcx := tr_cx S.tr
  have hg : GOk θ c.gl ρ := by rw [hcx.1]; exact hg0.mono S.le
  have hT : ∀ t, tmpOk ops (dstsOf ops) i o t = true → TRel θ ρ c env tm a t := fun t ht =>
    oprel S hn (r := ⟨i, o, c, env, tm, undefA, none⟩) (Dr := D) (fun _ hm => hm) S.tr hni hed hrd hun ht
  have hto : ∀ t, Operand.tmp t ∈ o.op.operands → TRel θ ρ c env tm a t := fun t ht => hT t (operand_tmp hx t ht)
  have hw : ∀ b, guardA (gF c ops o) env tm = some b → Region.wanted o (yielded ops a.tmps) = b := fun b hb => wanted_ok (fun j want d h1 h2 => hT d (guard_tmp hgd h1 h2)) hb
  have e0 : drF P ops c done ((k, i) :: R) = .eff (done.filter fun i => !waits o i) (gF c ops o) (dF c o.dst) (efF P c o) (drF P ops (dCx c o.dst) done R) := by
    rcases k with _ | _ | _ | k
    · exact absurd rfl hk0
    · simp only [drF, ho]
    · exact absurd rfl hk2
    · simp only [drF, ho]
  rw [e0] at hb hK
  simp only [runDr, guardD_eq] at hb hK
  unfold wpOp
  rw [ho]
  simp only
  cases hga : guardA (gF c ops o) env tm with
  | none => rw [hga] at hb; exact absurd rfl hb
  | some b =>
    rw [hga] at hb
    simp only [hga] at hK
    rw [hw b hga]
    cases b with
    | false =>
      simp only at hb hK
      simp only [Bool.false_eq_true, if_false]
      have hd : dF c o.dst ≠ .bad := by intro e; rw [e] at hb; exact hb rfl
      rw [putD_eq hd] at hb hK
      exact hK _ _ _ _ _ _ _ _ (sim_act S hn ho hd hrd (Ro.le_refl _) S.heap (Fram.refl _ _ _) (undef_rel _) fun _ _ _ hp => hp) hb fun _ _ hh => hh
    | true =>
      simp only at hb hK
      simp only [if_true]
      refine .inl ?_
      cases hf : efF P c o with
      | bad => rw [hf] at hb; exact absurd rfl hb
      | mk f =>
        rw [hf] at hb
        simp only [hf] at hK
        simp only at hb
        obtain ⟨hne, hall⟩ := bindO_spec hb
        refine ef_wp (by rw [hcx.1]; exact hE) hf hg S.heap hto hne ?_
        intro v h' ρ' x w' hhas hle hr' hv hfr
        obtain ⟨k1, k2⟩ := hall v h' hhas
        unfold effK at k1 k2
        cases hfo : factsOk (done.filter fun i => !waits o i) fs h' with
        | false => rw [hfo] at k1; exact absurd rfl k1
        | true =>
          rw [hfo, bsel_true] at k1
          simp only [hfo, bsel_true] at k2
          have hd : dF c o.dst ≠ .bad := by intro e; rw [e] at k1; exact k1 rfl
          rw [putD_eq hd] at k1 k2
          refine hK _ _ _ _ _ _ _ _ (sim_act S hn ho hd hrd hle hr' hfr hv fun r hr hl hp => ?_) k1 k2
          rcases hp with hp | ⟨p1, f', p2, p3, p4, p5⟩ | ⟨p1, f', len', z', n', b', p2, p3, p4, p5, p6, p7, p8⟩
          · exact .inl hp
          · refine .inr (.inl ⟨p1, f', p2, facts_hold hfo p5 ?_, p4, p5⟩)
            refine memNat_iff.2 (List.mem_filter.2 ⟨memNat_iff.1 p4, ?_⟩)
            cases hwt : waits o r.i with
            | false => rfl
            | true =>
              obtain ⟨e, he, hbi, hon⟩ := waits_spec hwt
              have := hrd e he hbi
              rw [hon, hl] at this; cases this
          · obtain ⟨q1, q2⟩ := hfr.ghost b' (S.lt r hr b' p5) p7
            exact .inr (.inr ⟨p1, f', len', z', n', b', p2, p3, p4, p5, by rw [q2]; exact p6, q1, p8⟩)

/-- one step: whichever comes up -/
theorem draw_step {call : CallF} {Q : Exit → Act → World → Prop} {K : Act → World → Prop} (hE : Env θ P c0.gl call) (hn : nodupN (dstsOf ops) = true) (hg0 : GOk θ c0.gl ρ0) {i : Nat} {X : RS}
    (hready : ∀ o, ops[i]? = some o → ∀ e ∈ o.after, Region.binds .any e = true → listed.getD e.on false = true) (hun : listed.getD i false = false)
    (hK : ∀ D done R c env tm h fs ρ a w, Sim θ P ops c0 tm0 ρ0 h0 w0 a0 D done R c env tm h fs ρ (listed.setIfInBounds i true) a w → runDr call (drF P ops c done R) env tm h fs ≠ .bad →
      (∀ tm2 g, RHas (runDr call (drF P ops c done R) env tm h fs) tm2 g → RHas X tm2 g) → K a w) :
    ∀ (R : List (Nat × Nat)) (D : List Rec) (done : List Nat) (c : Cx) (env : List V) (tm : PT V) (h : Heap) (fs : List (Nat × Fact)), Sim θ P ops c0 tm0 ρ0 h0 w0 a0 D done R c env tm h fs ρ listed a w →
      ((∃ r ∈ D, r.i = i) ∨ ∃ x ∈ R, x.2 = i) → runDr call (drF P ops c done R) env tm h fs ≠ .bad → (∀ tm2 g, RHas (runDr call (drF P ops c done R) env tm h fs) tm2 g → RHas X tm2 g) → wpOp P ops Q i K a w := by
  intro R
  induction R with
  | nil =>
    intro D done c env tm h fs S hi hb hX
    rcases hi with ⟨r, hr, rfl⟩ | ⟨x, hx, _⟩
    · exact pend_ok hE hn hg0 S hr hun (hready r.o (tr_ops S.tr r hr)) fun ρ' a' w' S' => hK _ _ _ _ _ _ _ _ _ _ _ S' hb hX
    · cases hx
  | cons x R ih =>
    obtain ⟨k, j⟩ := x
    intro D done c env tm h fs S hi hb hX
    by_cases hD : ∃ r ∈ D, r.i = i
    · obtain ⟨r, hr, rfl⟩ := hD
      exact pend_ok hE hn hg0 S hr hun (hready r.o (tr_ops S.tr r hr)) fun ρ' a' w' S' => hK _ _ _ _ _ _ _ _ _ _ _ S' hb hX
    · have hiR : ∃ x ∈ (k, j) :: R, x.2 = i := hi.resolve_left hD
      by_cases hk : k = 0 ∨ k = 2
      · obtain ⟨r, done', c', env', tm', h', fs', e1, S', e2⟩ := advance hk S hb
        refine ih (r :: D) done' c' env' tm' h' fs' S' ?_ (by rw [← e2]; exact hb) (by rw [← e2]; exact hX)
        obtain ⟨x, hx, hxi⟩ := hiR
        rcases List.mem_cons.1 hx with rfl | hx
        · exact .inl ⟨r, List.mem_cons_self, by rw [e1]; exact hxi⟩
        · exact .inr ⟨x, hx, hxi⟩
      · have hk0 : k ≠ 0 := fun e => hk (.inl e)
        have hk2 : k ≠ 2 := fun e => hk (.inr e)
        by_cases hj : j = i
        · subst hj
          exact act_ok hE hn hg0 hk0 hk2 S hready hb fun r c' env' tm' h' ρ' a' w' S' hb' hX' => hK _ _ _ _ _ _ _ _ _ _ _ S' hb' fun tm2 g hh => hX tm2 g (hX' tm2 g hh)
        · exfalso
          obtain ⟨x, hx, hxi⟩ := hiR
          have hxR : x ∈ R := by
            rcases List.mem_cons.1 hx with rfl | hx
            · exact absurd hxi hj
            · exact hx
          obtain ⟨_, _, _, _, _, _, hkd, _⟩ := plan_cons S.plan
          have hl : laterOk ops [j] R = true := by
            unfold kindOk at hkd
            split at hkd
            · exact absurd rfl hk0
            · exact absurd rfl hk2
            · exact hkd
          obtain ⟨o, s, h1, h2, h3⟩ := later_waits hl x hxR
          obtain ⟨e, he, hbi, hon⟩ := waits_spec h2
          rw [hxi] at h1
          have hls := hready o h1 e he hbi
          rw [hon] at hls
          have hus : listed.getD s false = false := by
            rcases h3 with h3 | h3
            · rw [List.mem_singleton.1 h3]; exact plan_un S (k, j) List.mem_cons_self
            · obtain ⟨y, hy, rfl⟩ := List.mem_map.1 h3
              exact plan_un S y (List.mem_cons_of_mem _ hy)
          rw [hus] at hls; cases hls
end
end Go.Ev
end

section
set_option autoImplicit false
namespace Go.Ev
variable {θ : Nat → Int} {P : Program}

section
variable {ops : Array Oper} {ds : List (Nat × Nat)} {c0 c : Cx} {tm0 tm : PT V} {env : List V} {D : List Rec}
/-- what the frame keeps -/
theorem tr_tm (h : Tr ops ds c0 tm0 D c env tm) {t : Nat} {v : V} (hk : PT.get (Pos.key t) c0.keep = some ()) (hv : PT.get (Pos.key t) tm = some v) :
    (∃ r ∈ D, r.o.dst = some t ∧ r.v = v) ∨ ((∀ r ∈ D, r.o.dst ≠ some t) ∧ PT.get (Pos.key t) tm0 = some v) := by
  induction h with
  | nil => exact .inr ⟨fun r hr => (by cases hr), hv⟩
  | @cons D c env tm r tr _ _ _ _ _ _ _ _ hd ih =>
    have ext : ((∃ m ∈ D, m.o.dst = some t ∧ m.v = v) ∨ ((∀ m ∈ D, m.o.dst ≠ some t) ∧ PT.get (Pos.key t) tm0 = some v)) → r.o.dst ≠ some t →
        ((∃ m ∈ r :: D, m.o.dst = some t ∧ m.v = v) ∨ ((∀ m ∈ r :: D, m.o.dst ≠ some t) ∧ PT.get (Pos.key t) tm0 = some v)) := fun hh hne => by
      rcases hh with ⟨m, hm, h1, h2⟩ | ⟨h1, h2⟩
      · exact .inl ⟨m, List.mem_cons_of_mem _ hm, h1, h2⟩
      · refine .inr ⟨fun m hm => ?_, h2⟩
        rcases List.mem_cons.1 hm with rfl | hm
        · exact hne
        · exact h1 m hm
    have hkc : c.keep = c0.keep := (tr_cx tr).2.1
    cases hdst : r.o.dst with
    | none =>
      rw [hdst] at hv
      exact ext (ih hv) (by rw [hdst]; simp)
    | some d =>
      rw [hdst] at hv hd
      by_cases e : t = d
      · subst e
        obtain ⟨_, ⟨e1, _⟩ | ⟨_, e2⟩⟩ := dF_spec hd
        · rw [e1] at hv
          simp only [dTm] at hv
          rw [PT.get_key_set, if_pos rfl] at hv
          injection hv with hv
          exact .inl ⟨r, List.mem_cons_self, hdst, hv⟩
        · rw [hkc, hk] at e2; cases e2
      · have : PT.get (Pos.key t) tm = some v := by
          obtain ⟨_, ⟨e1, _⟩ | ⟨e1, _⟩⟩ := dF_spec hd
          · rw [e1] at hv
            simp only [dTm] at hv
            rw [PT.get_key_set, if_neg e] at hv
            exact hv
          · rw [e1] at hv; exact hv
        exact ext (ih this) (by rw [hdst]; intro e'; injection e' with e'; exact e e'.symm)
end

section
variable {ops : Array Oper} {c0 : Cx} {tm0 : PT V} {ρ0 : Ro} {h0 : Heap} {w0 : World} {a0 : Act}
theorem draw_any {call : CallF} {Q : Exit → Act → World → Prop} (hE : Env θ P c0.gl call) (hn : nodupN (dstsOf ops) = true) (hg0 : GOk θ c0.gl ρ0) (hl0 : c0.loc = []) {X : RS}
    (hq : ∀ tm' h' ρ' a' w', RHas X tm' h' → After θ c0 ρ0 h0 w0 a0 tm' h' ρ' a' w' → Q .normal a' w') :
    ∀ (fuel : Nat) (rem : List Nat) (D : List Rec) (done : List Nat) (R : List (Nat × Nat)) (c : Cx) (env : List V) (tm : PT V) (h : Heap) (fs : List (Nat × Fact)) (ρ : Ro) (listed : Array Bool) (a : Act) (w : World),
      Sim θ P ops c0 tm0 ρ0 h0 w0 a0 D done R c env tm h fs ρ listed a w → (∀ i, i < ops.size → listed.getD i false = false → i ∈ rem) → rem.length ≤ fuel → runDr call (drF P ops c done R) env tm h fs ≠ .bad →
      (∀ tm2 g, RHas (runDr call (drF P ops c done R) env tm h fs) tm2 g → RHas X tm2 g) → wpAny P .any ops Q fuel listed a w := by
  have fin : ∀ (D : List Rec) (done : List Nat) (R : List (Nat × Nat)) (c : Cx) (env : List V) (tm : PT V) (h : Heap) (fs : List (Nat × Fact)) (ρ : Ro) (listed : Array Bool) (a : Act) (w : World),
      Sim θ P ops c0 tm0 ρ0 h0 w0 a0 D done R c env tm h fs ρ listed a w → (∀ i, i < ops.size → listed.getD i false = true) →
      (∀ tm2 g, RHas (runDr call (drF P ops c done R) env tm h fs) tm2 g → RHas X tm2 g) → Q .normal a w := by
    intro D done R c env tm h fs ρ listed a w S hall hX
    have hR : R = [] := by
      cases R with
      | nil => rfl
      | cons x R =>
        obtain ⟨o, ho, _⟩ := plan_cons S.plan
        have h1 := plan_un S x List.mem_cons_self
        rw [hall x.2 (Array.getElem?_eq_some_iff.1 ho).1] at h1; cases h1
    subst hR
    refine hq tm h ρ a w (hX tm h ?_) ⟨S.le, S.heap, ?_, S.size, S.defers, S.fram⟩
    · show RHas (runDr call .nil env tm h fs) tm h
      exact ⟨rfl, rfl⟩
    · intro t v hk hv
      rcases tr_tm S.tr hk hv with ⟨r, hr, hd, rfl⟩ | ⟨hno, hb⟩
      · exact S.got r hr (hall r.i (Array.getElem?_eq_some_iff.1 (tr_ops S.tr r hr)).1) t hd
      · obtain ⟨x, hx, hrel⟩ := S.base t v (by
          unfold tmpF
          rw [hl0]
          simp only [locIdx, hk]
          exact hb)
        exact ⟨x, by rw [S.rest t fun r hr _ => hno r hr]; exact hx, hrel⟩
  intro fuel
  induction fuel with
  | zero =>
    intro rem D done R c env tm h fs ρ listed a w S hrem hlen hb hX
    have hnil : rem = [] := List.eq_nil_of_length_eq_zero (Nat.le_zero.1 hlen)
    have hall : ∀ i, i < ops.size → listed.getD i false = true := fun i hi => by
      cases e : listed.getD i false with
      | true => rfl
      | false => have := hrem i hi e; rw [hnil] at this; cases this
    refine ⟨?_, fin D done R c env tm h fs ρ listed a w S hall hX⟩
    rw [List.eq_nil_iff_forall_not_mem]
    intro i hi
    obtain ⟨h1, o, ho, _⟩ := mem_ready.1 hi
    have hlt := (Array.getElem?_eq_some_iff.1 ho).1
    rw [getD_tf (by rw [S.lsize]; exact hlt), hall i hlt] at h1; cases h1
  | succ fuel ih =>
    intro rem D done R c env tm h fs ρ listed a w S hrem hlen hb hX
    refine ⟨fun hnr => ?_, fun i hi => ?_⟩
    · have rdy : ∀ i o, ops[i]? = some o → (∀ e ∈ o.after, Region.binds .any e = true → listed.getD e.on false = true) → listed.getD i false = true := fun i o ho hd => by
        cases e : listed.getD i false with
        | true => rfl
        | false =>
          have hlt := (Array.getElem?_eq_some_iff.1 ho).1
          have : i ∈ Region.ready .any ops listed := mem_ready.2 ⟨by rw [getD_tf (by rw [S.lsize]; exact hlt)]; exact e, o, ho, hd⟩
          rw [hnr] at this; cases this
      have hDall : ∀ (D : List Rec) (c : Cx) (env : List V) (tm : PT V), Tr ops (dstsOf ops) c0 tm0 D c env tm → ∀ r ∈ D, listed.getD r.i false = true := by
        intro D c env tm htr
        induction htr with
        | nil => intro r hr; cases hr
        | cons r t _ _ _ ho _ ha _ _ _ ih =>
          intro m hm
          rcases List.mem_cons.1 hm with rfl | hm
          · refine rdy m.i m.o ho fun e he hbi => ?_
            obtain ⟨m', hm', e'⟩ := List.mem_map.1 (memNat_iff.1 (ha e he hbi))
            rw [← e']; exact ih m' hm'
          · exact ih m hm
      have hD := hDall D c env tm S.tr
      refine fin D done R c env tm h fs ρ listed a w S (fun i hi => ?_) hX
      cases R with
      | nil =>
        rcases S.cov i hi with ⟨r, hr, rfl⟩ | ⟨x, hx, _⟩
        · exact hD r hr
        · cases hx
      | cons x R =>
        obtain ⟨o, ho, _, hed, _⟩ := plan_cons S.plan
        have := rdy x.2 o ho fun e he hbi => by
          obtain ⟨m', hm', e'⟩ := List.mem_map.1 (memNat_iff.1 (hed e he hbi))
          rw [← e']; exact hD m' hm'
        have h2 := plan_un S x List.mem_cons_self
        rw [this] at h2; cases h2
    · obtain ⟨h1, o, ho, hd⟩ := mem_ready.1 hi
      have hlt := (Array.getElem?_eq_some_iff.1 ho).1
      rw [getD_tf (by rw [S.lsize]; exact hlt)] at h1
      refine draw_step hE hn hg0 (X := X) (fun o' ho' => by rw [ho] at ho'; injection ho' with ho'; subst ho'; exact hd) h1 ?_ R D done c env tm h fs S (S.cov i hlt) hb hX
      intro D' done' R' c' env' tm' h' fs' ρ' a' w' S' hb' hX'
      refine ih (rem.erase i) D' done' R' c' env' tm' h' fs' ρ' (listed.setIfInBounds i true) a' w' S' (fun j hj hl => ?_) ?_ hb' hX'
      · by_cases e : i = j
        · subst e
          rw [getD_set_same (by rw [S.lsize]; exact hlt)] at hl; cases hl
        · rw [getD_set_ne false e] at hl
          exact (List.mem_erase_of_ne (fun e' => e e'.symm)).2 (hrem j hj hl)
      · have := List.length_erase_of_mem (hrem i hlt h1)
        omega
end

/-- Regions that draw their order do what their plan says. -/
theorem draws_ok (hm : P.follows .mixedOrders = true) : DrawsOk θ P := by
  intro c call pl id ops hc hE hchk tm h ρ a w Q hg hr hf hs hb hq
  unfold chkDr at hchk
  simp only [band_eq, Bool.and_eq_true] at hchk
  obtain ⟨⟨hcov, hn⟩, hplan⟩ := hchk
  change rsRes (runDr call (drF P ops c [] pl) [] tm h []) ≠ .bad at hb
  have hne : runDr call (drF P ops c [] pl) [] tm h [] ≠ .bad := by
    intro e; rw [e] at hb; exact hb rfl
  have hl : LRel θ ρ c.loc [] a := by rw [hc]; exact LRel.nil _ _
  refine wp_region_any hm ?_
  refine draw_any (ρ0 := ρ) (h0 := h) (w0 := w) (a0 := a) (tm0 := tm) hE hn hg hc (X := runDr call (drF P ops c [] pl) [] tm h []) ?_ ops.size (List.range ops.size) [] [] pl c [] tm h [] ρ (Array.replicate ops.size false) a { w with drawn := w.drawn + 1 }
    ?_ (fun i hi _ => List.mem_range.2 hi) (by simp) hne (fun _ _ hh => hh)
  · intro tm' h' ρ' a' w' hh af
    refine hq .normal tm' h' ρ' a' w' ?_ af
    show ResHas (rsRes (runDr call (drF P ops c [] pl) [] tm h [])) .normal tm' h'
    revert hh
    cases runDr call (drF P ops c [] pl) [] tm h [] with
    | bad => exact False.elim
    | one tm2 h2 => exact fun ⟨e1, e2⟩ => ⟨rfl, e1, e2⟩
    | many l => exact fun hm => List.mem_map.2 ⟨_, hm, rfl⟩
  · have hrep : ∀ i, (Array.replicate ops.size false).getD i false = false := fun i => by
      simp only [Array.getD_eq_getD_getElem?, Array.getElem?_replicate]
      split <;> rfl
    exact {
      tr := .nil
      le := Ro.le_refl _
      heap := HRel.same (w := w) (w' := { w with drawn := w.drawn + 1 }) rfl hr
      fram := Fram.same (w := w) (w1 := { w with drawn := w.drawn + 1 }) rfl ⟨rfl, rfl⟩ (Fram.refl ρ h { w with drawn := w.drawn + 1 })
      size := hs
      defers := rfl
      lsize := by simp
      plan := hplan
      inD := fun i hi => by rw [hrep i] at hi; cases hi
      deps := fun i o hi => by rw [hrep i] at hi; cases hi
      got := fun r hr => by cases hr
      rest := fun t _ => rfl
      base := fun t v hv => trel_of hf hl t v hv
      pend := fun r hr => by cases hr
      far := fun r hr => by cases hr
      lt := fun r hr => by cases hr
      cov := fun i hi => by
        have := List.all_eq_true.1 hcov i (List.mem_range.2 hi)
        obtain ⟨x, hx, e⟩ := List.mem_map.1 (memNat_iff.1 this)
        exact .inr ⟨x, hx, e⟩ }
end Go.Ev
end
