import Derived.Test.YtienogpnkkailaaGreatDoorEvD
import Derived.Laws.CopyRow
import Derived.Laws.AppendOwn
section
set_option autoImplicit false
namespace Go.Ev
variable {θ : Nat → Int} {P : Program} {ρ : Ro} {h : Heap} {w : World}

/-! ### writing cells -/
theorem setRow_put {g : Nat} {cur cs : Array Value} {t : TypeId} {fr : Nat × Nat} (hg : w.heap[g]? = some (.cells cur t fr)) :
    w.setRow g cs = { w with heap := w.heap.setIfInBounds g (.cells cs t fr) } := by
  have hlt : g < w.heap.size := (Array.getElem?_eq_some_iff.1 hg).1
  have hv : w.heap[g] = .cells cur t fr := (Array.getElem?_eq_some_iff.1 hg).2
  unfold World.setRow
  congr 1
  apply Array.ext_getElem?
  intro k
  rw [Array.getElem?_setIfInBounds]
  by_cases hk : g = k
  · subst hk; rw [Array.getElem?_modify, if_pos rfl, hg]; simp [hlt]
  · simp [hk, Array.getElem?_modify]

theorem run_storeCells_free {q o : Nat} {t : TypeId} {fr : Nat × Nat} (hf : noFreeze fr) : ∀ (vs : List Value) (i : Nat) (cur : Array Value) (w : World), w.heap[q]? = some (.cells cur t fr) → o + i + vs.length ≤ cur.size → (∀ v ∈ vs, v.oneCell' = true) →
    (storeCells ⟨q, o, none⟩ vs i).run P w = .ok () (w.setRow q (cur.toList.take (o + i) ++ vs ++ cur.toList.drop (o + i + vs.length)).toArray)
  | [], i, cur, w, hg, _, _ => by
    simp only [storeCells, List.append_nil, List.length_nil, Nat.add_zero, List.take_append_drop, Array.toArray_toList]
    rw [setRow_self w q cur t fr hg]
    rfl
  | v :: rest, i, cur, w, hg, hl, h1 => by
    have hi : o + i < cur.size := by simp at hl; omega
    have hcell : w.cell? ⟨q, o + i, none⟩ = some cur[o + i] := by simp [World.cell?, hg, hi]
    have hst : (store ((⟨q, o, none⟩ : Addr).add i) v).run P w = .ok () (w.setRow q (cur.setIfInBounds (o + i) v)) := by
      rw [addr_add, run_store P w _ v _ (h1 v (by simp)), hcell]
      simp [frozen_of hg hf, setCell_eq_setRow w q (o + i) cur t fr v hg]
    have ih := run_storeCells_free (q := q) (o := o) (t := t) hf rest (i + 1) (cur.setIfInBounds (o + i) v) (w.setRow q (cur.setIfInBounds (o + i) v)) (setRow_heap w q cur _ t _ hg) (by simp at hl ⊢; omega) (fun x hx => h1 x (by simp [hx]))
    simp only [storeCells, Sem.run_bind, hst, Result.andThen_ok, ih, setRow_setRow]
    congr 3
    have e := list_seg_step cur.toList (o + i) v rest (by simp at hl ⊢; omega)
    simpa [Array.toList_setIfInBounds, Nat.add_assoc] using e

theorem seg_get {α : Type} (l vs : List α) (o j : Nat) (h : o + vs.length ≤ l.length) : (l.take o ++ vs ++ l.drop (o + vs.length))[j]? =
    if j < o then l[j]? else if j < o + vs.length then vs[j - o]? else l[j]? := by
  rw [List.append_assoc, List.getElem?_append]
  have e : (l.take o).length = o := by simp; omega
  rw [e]
  split
  · rename_i hj; rw [List.getElem?_take]; simp [hj]
  · rename_i hj
    rw [List.getElem?_append]
    split
    · rename_i hj2; rw [if_pos (by omega)]
    · rename_i hj2
      rw [if_neg (by omega), List.getElem?_drop]
      congr 1; omega

/-- A write of n cells into a block. -/
theorem storeCells_ok {b off n : Nat} {vs : List V} {xs : List Value} {h' : Heap} {p : Pl} (hs : storeCellsA h b off n vs = some h') (hr : HRel θ ρ h w) (hp : ρ b = some p)
    (hl : vs.length = n) (t : All2 (CRel θ ρ) vs xs) :
    ∃ w', (storeCells ⟨p.blk, p.base + off, none⟩ xs).run P w = .ok () w' ∧ HRel θ ρ h' w' ∧ Fram ρ h w ρ h' w' := by
  unfold storeCellsA at hs
  split at hs
  · rename_i c len tl hb
    split at hs
    · rename_i c' hc'
      injection hs with hs; subst hs
      obtain ⟨p', hp', hcl, cur, e, fr, hq, hf, hsz, hcells, htl⟩ := hr.obj _ _ _ hb (by assumption)
      rw [hp] at hp'; injection hp' with hp'; subst hp'
      obtain ⟨hfit, rfl⟩ := wr_eq hcl hl hc'
      have hxl : xs.length = n := by rw [← t.length, hl]
      have hfit' : p.base + off + 0 + xs.length ≤ cur.size := by omega
      have hrun := run_storeCells_free (P := P) hf xs 0 cur w hq hfit' (fun x hx => by
        obtain ⟨i, hi⟩ := List.getElem?_of_mem hx
        have hi' : i < vs.length := by rw [t.length]; exact (List.getElem?_eq_some_iff.1 hi).1
        obtain ⟨x', hx', hrel⟩ := t.get (List.getElem?_eq_getElem hi')
        rw [hi] at hx'; injection hx' with hx'; subst hx'
        exact crel_oneCell hrel)
      rw [setRow_put hq] at hrun
      refine ⟨_, hrun, ?_⟩
      refine hr.put hb hp _ ⟨p, hp, ?_⟩
      simp only [Nat.add_zero] at hfit' ⊢
      have hlt : p.blk < w.heap.size := (Array.getElem?_eq_some_iff.1 hq).1
      refine ⟨?_, _, e, fr, by rw [Array.getElem?_setIfInBounds_self_of_lt hlt], hf, ?_, ?_, ?_⟩
      · simp; omega
      · simp; omega
      · intro i v hi
        simp only [List.getElem?_toArray]
        rw [seg_get cur.toList xs (p.base + off) (p.base + i) (by simpa using hfit')]
        have hseg := seg_get c vs off i (by omega)
        rw [hl, List.append_assoc] at hseg
        rw [hseg] at hi
        by_cases h1 : i < off
        · rw [if_pos h1] at hi
          rw [if_pos (by omega), Array.getElem?_toList]
          exact hcells i v hi
        · rw [if_neg h1] at hi
          rw [if_neg (by omega)]
          by_cases h2 : i < off + n
          · rw [if_pos h2] at hi
            rw [if_pos (by omega), show p.base + i - (p.base + off) = i - off by omega]
            exact t.get hi
          · rw [if_neg h2] at hi
            rw [if_neg (by omega), Array.getElem?_toList]
            exact hcells i v hi
      · split at htl
        · trivial
        · simp only [List.size_toArray, List.length_append, List.length_take, List.length_drop, Array.length_toList]
          obtain ⟨h1, h2, h3⟩ := htl
          refine ⟨h1, h2, ?_⟩
          omega
    · cases hs
  · cases hs
end Go.Ev
end

section
set_option autoImplicit false
namespace Go.Ev
variable {θ : Nat → Int} {P : Program} {ρ : Ro} {h : Heap} {w : World}

/-- this is one of the outcomes -/
def Has (r : Out) (v : V) (h : Heap) : Prop := match r with
  | .bad => False
  | .one v' h' => v' = v ∧ h' = h
  | .many l => (v, h) ∈ l
/-- A run comes to one of the outcomes. -/
def Goes (θ : Nat → Int) (P : Program) (ρ : Ro) (h : Heap) (w : World) (r : Out) {α : Type} (s : Sem α) (val : α → Value → Prop) : Prop :=
  ∃ a w' x v h' ρ', s.run P w = .ok a w' ∧ val a x ∧ Has r v h' ∧ ρ.le ρ' ∧ HRel θ ρ' h' w' ∧ VRel θ ρ' v x ∧ Fram ρ h w ρ' h' w'
abbrev GoesV (θ : Nat → Int) (P : Program) (ρ : Ro) (h : Heap) (w : World) (r : Out) (s : Sem Value) : Prop := Goes θ P ρ h w r s Eq
abbrev GoesU (θ : Nat → Int) (P : Program) (ρ : Ro) (h : Heap) (w : World) (r : Out) (s : Sem Unit) : Prop := Goes θ P ρ h w r s fun _ x => x = undef
def isNext (n : Next) (x : Value) : Prop := n = .value x ∨ (n = .skip ∧ x = undef)
abbrev GoesN (θ : Nat → Int) (P : Program) (ρ : Ro) (h : Heap) (w : World) (r : Out) (s : Sem Next) : Prop := Goes θ P ρ h w r s isNext

theorem GoesV.next {r : Out} {s : Sem Value} (g : GoesV θ P ρ h w r s) : GoesN θ P ρ h w r (do pure (Next.value (← s))) := by
  obtain ⟨a, w', x, v, h', ρ', e, ev, rest⟩ := g
  exact ⟨.value a, w', x, v, h', ρ', by simp [e], .inl (by rw [ev]), rest⟩
theorem GoesU.next {r : Out} {s : Sem Unit} (g : GoesU θ P ρ h w r s) : GoesN θ P ρ h w r (do s; pure Next.skip) := by
  obtain ⟨a, w', x, v, h', ρ', e, ev, rest⟩ := g
  exact ⟨.skip, w', x, v, h', ρ', by simp [e], .inr ⟨rfl, ev⟩, rest⟩

/-! ### new blocks -/
theorem new_blk (hr : HRel θ ρ h w) {z : List V} {n : Nat} {c : Array Value} {e : TypeId} {tl : Tail} {cap : Nat} (hz : z.length = n) (hfit : n ≤ c.size)
    (hrel : ∀ (i : Nat) (v : V), z[i]? = some v → ∃ x, c[i]? = some x ∧ CRel θ ρ v x)
    (htl : match tl with | .exact => True | .opn size => 0 < size ∧ n ≤ cap * size ∧ cap * size ≤ c.size) :
    HRel θ (ρ.ext h.next ⟨w.heap.size, 0, cap⟩) (h.new (.blk z n tl)) (World.push w (.cells c e)) ∧
      Fram ρ h w (ρ.ext h.next ⟨w.heap.size, 0, cap⟩) (h.new (.blk z n tl)) (World.push w (.cells c e)) ∧ ρ.le (ρ.ext h.next ⟨w.heap.size, 0, cap⟩) := by
  have hle := Ro.le_ext (⟨w.heap.size, 0, cap⟩ : Pl) hr.fresh
  refine hr.new _ _ _ rfl ⟨⟨w.heap.size, 0, cap⟩, Ro.ext_same _ _ _, hz, c, e, (0, 0), ?_, ?_, ?_, ?_, ?_⟩
  · show (w.heap.push (Obj.cells c e))[w.heap.size]? = _
    simp
  · intro o ho; simp at ho
  · simpa using hfit
  · intro i v hi
    obtain ⟨x, h1, h2⟩ := hrel i v hi
    exact ⟨x, by simpa using h1, h2.mono hle⟩
  · split at htl
    · trivial
    · simpa using htl
theorem all2_cells {z : List V} {c : Array Value} (t : All2 (CRel θ ρ) z c.toList) : z.length ≤ c.size ∧ ∀ (i : Nat) (v : V), z[i]? = some v → ∃ x, c[i]? = some x ∧ CRel θ ρ v x := by
  refine ⟨by rw [t.length]; simp, fun i v hi => ?_⟩
  obtain ⟨x, h1, h2⟩ := t.get hi
  exact ⟨x, by simpa using h1, h2⟩
theorem zeroCells_spec {e : TypeId} {n : Nat} {z : List V} (h : zeroCellsA P e = some (n, z)) : ∃ x, (∀ w, (zeroValue e).run P w = .ok x w) ∧ z.length = n ∧ ∀ (ρ : Ro), All2 (CRel θ ρ) z x.cells.toList := by
  unfold zeroCellsA at h
  obtain ⟨zv, h1, h2⟩ := Option.bind_eq_some_iff.1 h
  obtain ⟨x, _, _, i, hi, hx⟩ := zeroOf_spec (w := default) (θ := θ) (ρ := ⟨fun _ => none, fun _ => none⟩) h1
  refine ⟨x, fun w => by simp [zeroValue, run_typeInfo hi, hx], ?_, fun ρ => ?_⟩
  · obtain ⟨y, _, hy, _⟩ := zeroOf_spec (w := default) (θ := θ) (ρ := ⟨fun _ => none, fun _ => none⟩) h1
    exact (cellsOfV_rel h2 (arel_vrel hy)).1
  · obtain ⟨y, _, hy, j, hj, hyj⟩ := zeroOf_spec (w := default) (θ := θ) (ρ := ρ) h1
    rw [hi] at hj; injection hj with hj; subst hj
    rw [hx] at hyj; injection hyj with hyj; subst hyj
    exact (cellsOfV_rel h2 (arel_vrel hy)).2

theorem alloc_ok {e : TypeId} {n : Nat} {z : List V} (hz : zeroCellsA P e = some (n, z)) (hr : HRel θ ρ h w) :
    GoesV θ P ρ h w (.one (.ptr h.next 0) (h.new (.blk z n .exact))) (Instr.alloc e true (.tuple #[])) := by
  obtain ⟨x, h1, h2, h3⟩ := zeroCells_spec (θ := θ) hz
  obtain ⟨f1, f2⟩ := all2_cells (h3 ρ)
  obtain ⟨g1, g2, g3⟩ := new_blk (tl := .exact) (cap := 0) (e := e) hr h2 (by omega) f2 trivial
  refine ⟨_, World.push w (.cells x.cells e), _, _, _, _, ?_, rfl, ⟨rfl, rfl⟩, g3, g1, ⟨_, Ro.ext_same _ _ _, rfl⟩, g2⟩
  simp [Instr.alloc, h1, newVar, newRow, World.push]
theorem box_ok {e : TypeId} {n : Nat} {u : V} {x : Value} (hu : VRel θ ρ u x) (hr : HRel θ ρ h w) (hb : oBox n h u ≠ .bad) : GoesV θ P ρ h w (oBox n h u) (Instr.box e x) := by
  unfold oBox at hb ⊢
  split at hb
  · rename_i m z hz
    rw [bsel_eq] at hb ⊢
    split at hb
    · rename_i hm
      rw [if_pos hm]
      obtain ⟨h2, h3⟩ := cellsOfV_rel hz hu
      have hm' : m = n := by simpa [nbeq_iff] using hm
      subst hm'
      obtain ⟨f1, f2⟩ := all2_cells h3
      obtain ⟨g1, g2, g3⟩ := new_blk (tl := .exact) (cap := 0) (e := e) hr h2 (by omega) f2 trivial
      refine ⟨_, World.push w (.cells x.cells e), _, _, _, _, ?_, rfl, ⟨rfl, rfl⟩, g3, g1, ⟨_, Ro.ext_same _ _ _, rfl⟩, g2⟩
      simp [Instr.box, newVar, newRow, World.push]
    · exact absurd rfl hb
  · exact absurd rfl hb

/-! ### a row of the same -/
theorem flat_rep_get {α : Type} (z : List α) : ∀ (n i : Nat), i < n * z.length → (List.replicate n z).flatten[i]? = z[i % z.length]?
  | 0, i, hi => by simp at hi
  | n + 1, i, hi => by
    rw [List.replicate_succ, List.flatten_cons, List.getElem?_append]
    split
    · rename_i hl; rw [Nat.mod_eq_of_lt hl]
    · rename_i hl
      rw [flat_rep_get z n (i - z.length) (by rw [Nat.succ_mul] at hi; omega)]
      congr 1
      rw [← Nat.mod_eq_sub_mod (by omega)]
theorem replV_len (z : List V) (n : Nat) : (replV z n).length = n * z.length := by
  rw [replV_eq]; simp
theorem repl_rel {z : List V} {zero : Array Value} (t : All2 (CRel θ ρ) z zero.toList) (n : Nat) {N : Nat} (hN : N = n * z.length) :
    All2 (CRel θ ρ) (replV z n) ((Array.range N).map (zero[· % zero.size]!)).toList := by
  subst hN
  have hsz : zero.size = z.length := by rw [t.length]; simp
  refine All2.of_get (by rw [replV_len]; simp) fun i v hi => ?_
  have hi' : i < n * z.length := by rw [← replV_len]; exact (List.getElem?_eq_some_iff.1 hi).1
  rw [replV_eq, flat_rep_get z n i hi'] at hi
  obtain ⟨x, h1, h2⟩ := t.get hi
  refine ⟨x, ?_, h2⟩
  rw [Array.getElem?_toList] at h1
  simp [hi', hsz]
  rw [getElem!_def, h1]
end Go.Ev
end

section
set_option autoImplicit false
namespace Go.Ev
variable {θ : Nat → Int} {P : Program} {ρ : Ro} {h : Heap} {w : World}

theorem undef_rel (ρ : Ro) : VRel θ ρ undefA undef := ⟨#[], rfl, .nil⟩
theorem outH_ne {r : Option Heap} (h : outH r ≠ .bad) : ∃ h', r = some h' := by
  cases r with
  | none => exact absurd rfl h
  | some h' => exact ⟨h', rfl⟩

theorem store_ok {t : TypeId} {n : Nat} {u v : V} {x y : Value} (hn : szOf P t = some n) (hu : VRel θ ρ u x) (hv : VRel θ ρ v y) (hr : HRel θ ρ h w) (hb : storeN n h u v ≠ .bad) :
    GoesU θ P ρ h w (storeN n h u v) (Instr.storeAt t x y) := by
  unfold storeN at hb ⊢
  split at hb
  · rename_i b off
    split at hb
    · rename_i m vs hcs
      rw [bsel_eq] at hb
      split at hb
      · rename_i hm
        have hm' : m = n := by simpa [nbeq_iff] using hm
        subst hm'
        obtain ⟨h', hs⟩ := outH_ne hb
        obtain ⟨hl, tt⟩ := cellsOfV_rel hcs hv
        obtain ⟨p, hp, rfl⟩ := vrel_ptr hu
        obtain ⟨w', e, h1, h2⟩ := storeCells_ok (P := P) hs hr hp hl tt
        have hsz : y.cells.size = m := by rw [← Array.length_toList, ← tt.length, hl]
        refine ⟨(), w', undef, undefA, h', ρ, ?_, rfl, ?_, Ro.le_refl _, h1, undef_rel _, h2⟩
        · simp [Instr.storeAt, Instr.sureAddr, storeVar, run_sizeOf hn, hsz, e]
        · rw [hm, bsel_true, hs]; exact ⟨rfl, rfl⟩
      · exact absurd rfl hb
    · exact absurd rfl hb
  · exact absurd rfl hb

/-! ### maps -/
theorem push_map (hr : HRel θ ρ h w) (o : AObj) (x : Obj) (ho : ORel θ (ρ.ext h.next ⟨w.heap.size, 0, 0⟩) (World.push w x) h.next o) :
    HRel θ (ρ.ext h.next ⟨w.heap.size, 0, 0⟩) (h.new o) (World.push w x) ∧ Fram ρ h w (ρ.ext h.next ⟨w.heap.size, 0, 0⟩) (h.new o) (World.push w x) ∧ ρ.le (ρ.ext h.next ⟨w.heap.size, 0, 0⟩) :=
  hr.new _ _ _ rfl ho
theorem push_get (w : World) (x : Obj) : (World.push w x).heap[w.heap.size]? = some x := by
  show (w.heap.push x)[w.heap.size]? = _
  simp
theorem makeMap_new (hr : HRel θ ρ h w) : ∃ ρ', ρ.le ρ' ∧ HRel θ ρ' (h.new (.map [] 0)) (World.push w (.map #[] 0)) ∧ VRel θ ρ' (.map h.next) (.map (some w.heap.size)) ∧ Fram ρ h w ρ' (h.new (.map [] 0)) (World.push w (.map #[] 0)) := by
  obtain ⟨g1, g2, g3⟩ := push_map hr (.map [] 0) (.map #[] 0) ⟨⟨w.heap.size, 0, 0⟩, Ro.ext_same _ _ _, #[], push_get _ _, .nil⟩
  exact ⟨_, g3, g1, ⟨_, Ro.ext_same _ _ _, rfl⟩, g2⟩
theorem makeMap0_ok {t : TypeId} (hr : HRel θ ρ h w) : GoesV θ P ρ h w (.one (.map h.next) (h.new (.map [] 0))) (Instr.makeMap t none) := by
  obtain ⟨ρ', g3, g1, gv, g2⟩ := makeMap_new hr
  exact ⟨_, World.push w (.map #[] 0), _, _, _, ρ', by simp [Instr.makeMap]; rfl, rfl, ⟨rfl, rfl⟩, g3, g1, gv, g2⟩
theorem makeMap1_ok {t k e : TypeId} {u : V} {x : Value} (ht : P.underlying t = some (.map k e)) (hu : VRel θ ρ u x) (hr : HRel θ ρ h w) (hb : oMap1 h u ≠ .bad) : GoesV θ P ρ h w (oMap1 h u) (Instr.makeMap t (some x)) := by
  unfold oMap1 at hb ⊢
  split at hb
  · obtain rfl := vrel_int hu
    obtain ⟨ρ', g3, g1, gv, g2⟩ := makeMap_new hr
    exact ⟨_, World.push w (.map #[] 0), _, _, _, ρ', by simp [Instr.makeMap, run_underlying ht, asInt, asIntOf]; rfl, rfl, ⟨rfl, rfl⟩, g3, g1, gv, g2⟩
  · exact absurd rfl hb

theorem leaf_true {kk : Nat} (hkk : kk = 1 ∨ kk = 2) {u u' : V} {x x' : Value} (hu : CRel θ ρ u x) (hu' : CRel θ ρ u' x') (h : leafEq kk u u' = some true) : x = x' ∧ Instr.sameBits 10000 x' x = true := by
  have sb : ∀ n (k : IntKind) m, Instr.sameBits n (.int k m) (.int k m) = true := fun n k m => by cases n <;> simp [Instr.sameBits]
  have ss : ∀ n (s : ByteArray), Instr.sameBits n (.string s) (.string s) = true := fun n s => by cases n <;> simp [Instr.sameBits, beq_toListBytes]
  rcases hkk with rfl | rfl
  · obtain ⟨k, m, n, rfl, rfl, e⟩ := leaf1 hu hu' h
    rw [beq_iff_eq] at e; subst e
    exact ⟨rfl, sb _ _ _⟩
  · cases u <;> simp only [leafEq, reduceCtorEq] at h
    rename_i n s
    cases u' <;> simp only [reduceCtorEq] at h
    rename_i m s'
    obtain ⟨hn, hs, rfl⟩ := hu
    obtain ⟨hm, hs', rfl⟩ := hu'
    have e := strEqN_sound hn hm hs hs' h
    rw [beq_iff_eq] at e
    have e2 : strOf θ s = strOf θ s' := by unfold strOf; rw [e]
    rw [e2]
    exact ⟨rfl, ss _ _⟩

theorem updME_cons (kk : Nat) (k v : V) (clock : Nat) (e : ME) (l : List ME) : updME kk k v clock (e :: l) = (match leafEq kk k e.key with
    | none => none
    | some true => some (false, ⟨k, v, e.born⟩ :: l)
    | some false => match updME kk k v clock l with
      | none => none
      | some r => some (r.1, e :: r.2)) := by
  have e1 : updME kk k v clock (e :: l) = Option.rec none (fun b => Bool.rec (Option.rec none (fun r => some (r.1, e :: r.2)) (updME kk k v clock l)) (some (false, ⟨k, v, e.born⟩ :: l)) b) (leafEq kk k e.key) := rfl
  rw [e1]
  cases leafEq kk k e.key with
  | none => rfl
  | some b => cases b with
    | true => rfl
    | false => cases updME kk k v clock l <;> rfl

theorem updME_ok {t : TypeId} {kk : Nat} (hk : keyKind P t = some kk) {d : TypeDesc} (hd : P.underlying t = some d) {k v : V} {x y : Value} (hx : CRel θ ρ k x) (hy : ARel θ ρ v y) (clock : Nat) :
    ∀ {l : List ME} {xs : List MapEntry} {nw : Bool} {l' : List ME} (i : Nat), All2 (MRel θ ρ) l xs → updME kk k v clock l = some (nw, l') →
      (nw = true ∧ Instr.findNow d x xs i = some none ∧ All2 (MRel θ ρ) l' (xs ++ [{ key := x, val := y, born := clock }])) ∨
      (nw = false ∧ ∃ j e z, Instr.findNow d x xs i = some (some (i + j, z)) ∧ xs[j]? = some e ∧ e.key = x ∧ Instr.sameBits 10000 e.key x = true ∧
        All2 (MRel θ ρ) l' (xs.modify j fun e => { e with key := x, val := y }))
  | [], _, nw, l', i, t, h => by
    cases t
    have : some (true, [(⟨k, v, clock⟩ : ME)]) = some (nw, l') := h
    injection this with this; injection this with h1 h2; subst h1; subst h2
    exact .inl ⟨rfl, rfl, .cons ⟨hx, hy, rfl⟩ .nil⟩
  | e :: l, _, nw, l', i, t, h => by
    cases t with
    | cons he t =>
      rename_i c xs
      rw [updME_cons] at h
      cases hl : leafEq kk k e.key with
      | none => rw [hl] at h; cases h
      | some b =>
        rw [hl] at h
        have hs := leaf_same hk hx he.1 hl hd
        cases b with
        | true =>
          injection h with h; injection h with h1 h2; subst h1; subst h2
          obtain ⟨e1, e2⟩ := leaf_true (by rcases keyKind_spec hk with ⟨h, _⟩ | ⟨h, _⟩ <;> simp [h]) hx he.1 hl
          exact .inr ⟨rfl, 0, c, c.val, by simp only [Instr.findNow, hs, Nat.add_zero], rfl, e1.symm, e2, .cons ⟨hx, hy, he.2.2⟩ t⟩
        | false =>
          simp only at h
          split at h
          · cases h
          · rename_i r hr
            injection h with h; injection h with h1 h2; subst h1; subst h2
            rcases updME_ok hk hd hx hy clock (i + 1) t hr with ⟨e1, e2, e3⟩ | ⟨e1, j, e', z, e2, e3, e4, e5, e6⟩
            · exact .inl ⟨e1, by simp only [Instr.findNow, hs]; exact e2, .cons he e3⟩
            · exact .inr ⟨e1, j + 1, e', z, by simp only [Instr.findNow, hs]; rw [e2]; congr 3; omega, by simpa using e3, e4, e5, .cons he e6⟩
end Go.Ev
end

section
set_option autoImplicit false
namespace Go.Ev
variable {θ : Nat → Int} {P : Program} {ρ : Ro} {h : Heap} {w : World}

theorem run_setObj {q : Nat} {o0 : Obj} (o : Obj) (hq : w.heap[q]? = some o0) (hc : ∀ c e f, o0 ≠ .cells c e f) : (setObj q o).run P w = .ok () { w with heap := w.heap.setIfInBounds q o } := by
  cases o0 <;> first
    | exact absurd rfl (hc _ _ _)
    | simp [setObj, Sem.run, hq]
theorem set_get {q : Nat} {o0 o : Obj} (hq : w.heap[q]? = some o0) : ({ w with heap := w.heap.setIfInBounds q o } : World).heap[q]? = some o := by
  have hlt : q < w.heap.size := (Array.getElem?_eq_some_iff.1 hq).1
  show (w.heap.setIfInBounds q o)[q]? = _
  rw [Array.getElem?_setIfInBounds_self_of_lt hlt]

theorem notTup {v : V} {y : Value} (h : isTup v = false) (hv : VRel θ ρ v y) : ARel θ ρ v y := by
  cases v <;> first
    | exact hv
    | cases h

theorem mapUpd_ok {t kt et : TypeId} {kk : Nat} {u k v : V} {x y z : Value} (ht : P.underlying t = some (.map kt et)) (hk : keyKind P kt = some kk)
    (hu : VRel θ ρ u x) (hy : VRel θ ρ k y) (hz : VRel θ ρ v z) (hr : HRel θ ρ h w) (hb : mapUpdK kk h u k v ≠ .bad) :
    GoesU θ P ρ h w (mapUpdK kk h u k v) (Instr.mapUpdate t x y z) := by
  unfold mapUpdK at hb ⊢
  split at hb
  · rename_i b
    rw [bsel_eq] at hb
    split at hb
    · exact absurd rfl hb
    · rename_i hc
      have hc' : isTup v = false ∧ keyOk kk k = true := by
        rw [bor_eq] at hc
        cases h1 : isTup v <;> cases h2 : keyOk kk k <;> simp_all
      have hcr := keyOk_crel hc'.2 hy
      have hva := notTup hc'.1 hz
      obtain ⟨d, hd⟩ : ∃ d, P.underlying kt = some d := by
        rcases keyKind_spec hk with ⟨_, i, hi⟩ | ⟨_, hi⟩
        · exact ⟨_, hi⟩
        · exact ⟨_, hi⟩
      obtain ⟨p, hp, rfl⟩ : ∃ p, ρ b = some p ∧ x = Value.map (some p.blk) := hu
      split at hb
      · rename_i es clock hm
        obtain ⟨p', hp', xs, hxs, tt⟩ := hr.obj _ _ _ hm (by assumption)
        rw [hp] at hp'; injection hp' with hp'; subst hp'
        have hget := run_getObj (P := P) hxs (by simp)
        have hck := checkKey_run (P := P) (w := w) hk hcr hc'.2 false
        have hset := fun o => run_setObj (P := P) o hxs (by simp)
        simp only [hc]
        split at hb
        · rename_i es' hup
          rcases updME_ok hk hd hcr hva clock 0 tt hup with ⟨_, e2, e3⟩ | ⟨e1, _⟩
          · obtain ⟨g1, g2⟩ := hr.put hm hp (.map (xs.push { key := y, val := z, born := clock }) (clock + 1)) (o := .map es' (clock + 1))
              ⟨p, hp, _, set_get hxs, by simpa using e3⟩
            refine ⟨(), _, undef, undefA, _, ρ, ?_, rfl, ?_, Ro.le_refl _, g1, undef_rel _, g2⟩
            · simp only [Instr.mapUpdate, Sem.run_bind, run_underlying ht, Result.andThen_ok, hget, hck, run_findKey hd e2, hset]
            · exact ⟨rfl, rfl⟩
          · cases e1
        · rename_i es' hup
          rcases updME_ok hk hd hcr hva clock 0 tt hup with ⟨e1, _⟩ | ⟨_, j, e0, z0, e2, e3, e4, e5, e6⟩
          · cases e1
          · rw [Nat.zero_add] at e2
            rw [Array.getElem?_toList] at e3
            have ekey : (Instr.keyThatStays (((xs[j]?).map (·.key)).getD y) y).run P w = .ok y w := by
              simp only [e3, Option.map_some, Option.getD_some, Instr.keyThatStays, e5, if_true, Sem.run_pure]
            obtain ⟨g1, g2⟩ := hr.put hm hp (.map (xs.modify j fun e => { e with key := y, val := z }) clock) (o := .map es' clock)
              ⟨p, hp, _, set_get hxs, by rw [Array.toList_modify]; exact e6⟩
            refine ⟨(), _, undef, undefA, _, ρ, ?_, rfl, ?_, Ro.le_refl _, g1, undef_rel _, g2⟩
            · simp only [Instr.mapUpdate, Sem.run_bind, run_underlying ht, Result.andThen_ok, hget, hck, run_findKey hd e2, ekey, hset]
            · exact ⟨rfl, rfl⟩
        · exact absurd rfl hb
      · exact absurd rfl hb
  · exact absurd rfl hb

theorem rangeS_ok {t : TypeId} {u : V} {x : Value} (ht : P.underlying t = some .string) (hu : VRel θ ρ u x) (hr : HRel θ ρ h w) (hb : rangeS h u ≠ .bad) :
    GoesV θ P ρ h w (rangeS h u) (Instr.range t x) := by
  unfold rangeS at hb ⊢
  split at hb
  · rename_i n s
    obtain ⟨hn, hs, rfl⟩ := vrel_str hu
    obtain ⟨g1, g2, g3⟩ := push_map hr (.sit s n 0) (.stringIter (strOf θ s) 0) ⟨_, Ro.ext_same _ _ _, rfl, hn, hs, push_get _ _⟩
    exact ⟨_, World.push w (.stringIter (strOf θ s) 0), _, _, _, _, by simp [Instr.range, run_underlying ht]; rfl, rfl, ⟨rfl, rfl⟩, g3, g1, ⟨_, Ro.ext_same _ _ _, rfl⟩, g2⟩
  · exact absurd rfl hb
theorem rangeM_ok {t k e : TypeId} {u : V} {x : Value} (ht : P.underlying t = some (.map k e)) (hu : VRel θ ρ u x) (hr : HRel θ ρ h w) (hb : rangeM h u ≠ .bad) :
    GoesV θ P ρ h w (rangeM h u) (Instr.range t x) := by
  unfold rangeM at hb ⊢
  split at hb
  · rename_i m
    obtain ⟨p, hp, rfl⟩ : ∃ p, ρ m = some p ∧ x = Value.map (some p.blk) := hu
    split at hb
    · rename_i es clock hm
      obtain ⟨p', hp', xs, hxs, tt⟩ := hr.obj _ _ _ hm (by assumption)
      rw [hp] at hp'; injection hp' with hp'; subst hp'
      have hget := run_getObj (P := P) hxs (by simp)
      obtain ⟨g1, g2, g3⟩ := push_map hr (.mit m clock [] clock) (.mapIter (some p.blk) clock #[] clock)
        ⟨_, Ro.ext_same _ _ _, rfl, p, Ro.le_ext _ hr.fresh _ _ hp, push_get _ _⟩
      exact ⟨_, World.push w (.mapIter (some p.blk) clock #[] clock), _, _, _, _, by simp [Instr.range, run_underlying ht, hget]; rfl, rfl, ⟨rfl, rfl⟩, g3, g1, ⟨_, Ro.ext_same _ _ _, rfl⟩, g2⟩
    · exact absurd rfl hb
  · exact absurd rfl hb

/-! ### the next one -/
theorem outL_has {l : List (V × Heap)} {v : V} {h : Heap} (hm : (v, h) ∈ l) : Has (outL l) v h := by
  unfold outL
  split
  · rename_i a b
    rcases List.mem_singleton.1 hm with e
    injection e with e1 e2
    exact ⟨e1.symm, e2.symm⟩
  · exact hm
theorem memNat_eq (n : Nat) : ∀ l, memNat n l = l.contains n
  | [] => rfl
  | m :: l => by
    simp only [memNat, bsel_eq, nbeq_iff, memNat_eq n l, List.contains_cons]
    by_cases e : n = m <;> simp [e]
theorem filter_rel {p : ME → Bool} {q : MapEntry → Bool} (hpq : ∀ e x, MRel θ ρ e x → p e = q x) : ∀ {l : List ME} {xs : List MapEntry}, All2 (MRel θ ρ) l xs → All2 (MRel θ ρ) (l.filter p) (xs.filter q)
  | [], _, t => by cases t; exact .nil
  | e :: l, _, t => by
    cases t with
    | cons he t =>
      rename_i x xs
      simp only [List.filter_cons, hpq e x he]
      split
      · exact .cons he (filter_rel hpq t)
      · exact filter_rel hpq t
theorem all_rel {p : ME → Bool} {q : MapEntry → Bool} (hpq : ∀ e x, MRel θ ρ e x → p e = q x) : ∀ {l : List ME} {xs : List MapEntry}, All2 (MRel θ ρ) l xs → l.all p = xs.all q
  | [], _, t => by cases t; rfl
  | e :: l, _, t => by
    cases t with
    | cons he t => simp only [List.all_cons, hpq _ _ he, all_rel hpq t]
theorem empty_rel {l : List ME} {xs : List MapEntry} (t : All2 (MRel θ ρ) l xs) : l.isEmpty = xs.isEmpty := by cases t <;> rfl

theorem nextStr_ok {b : Nat} {s : List V} {n pos : Nat} {p : Pl} (hg : h.get b = some (.sit s n pos)) (hp : ρ b = some p) (hr : HRel θ ρ h w) (ty : TypeId) (hb : nextStr h b s n pos ≠ .bad) :
    GoesV θ P ρ h w (nextStr h b s n pos) (Instr.next (.pointer (some ⟨p.blk, 0, none⟩)) true ty) := by
  obtain ⟨p', hp', hbase, hn, hs, hx⟩ := hr.obj _ _ _ hg (by assumption)
  rw [hp] at hp'; injection hp' with hp'; subst hp'
  have hget := run_getObj (P := P) hx (by simp)
  have hset := fun o => run_setObj (P := P) o hx (by simp)
  unfold nextStr at hb ⊢
  rw [bsel_eq] at hb ⊢
  split at hb
  · rename_i hlt
    rw [if_pos hlt]
    rw [nblt_iff, decide_eq_true_iff] at hlt
    split at hb
    · rename_i k c hc
      rw [nth_eq] at hc
      rw [bsel_eq] at hb ⊢
      split at hb
      · rename_i h128
        rw [if_pos h128]
        rw [nblt_iff, decide_eq_true_iff] at h128
        have hby : ((strOf θ s).get! pos).toNat = c := by
          have h1 : (strOf θ s).data[pos]? = some (UInt8.ofNat c) := by rw [strOf_get, hc]; rfl
          have h2 : (strOf θ s).get! pos = UInt8.ofNat c := by
            show (strOf θ s).data[pos]! = _
            rw [getElem!_def, h1]
          rw [h2, UInt8.toNat_ofNat']; omega
        have hdec : Utf8.decode (strOf θ s) pos = (c, 1) := by
          unfold Utf8.decode
          simp only [Nat.add_zero, hby, h128, if_true]
        obtain ⟨g1, g2⟩ := hr.put hg hp (.stringIter (strOf θ s) (pos + 1)) (o := .sit s n (pos + 1)) ⟨p, hp, hbase, hn, hs, set_get hx⟩
        refine ⟨.tuple #[.bool true, goInt pos, .int .i32 c], _, _, _, _, ρ, ?_, rfl, ⟨rfl, rfl⟩, Ro.le_refl _, g1, ?_, g2⟩
        · have hsz : pos < (strOf θ s).size := by rw [strOf_size, hn]; exact hlt
          simp [Instr.next, hget, hsz, hdec, hset]
        · exact ⟨_, rfl, .cons rfl (.cons rfl (.cons rfl .nil))⟩
      · exact absurd rfl hb
    · exact absurd rfl hb
  · rename_i hlt
    rw [if_neg hlt]
    rw [nblt_iff, decide_eq_true_iff] at hlt
    have hsz : ¬ pos < (strOf θ s).size := by rw [strOf_size, hn]; exact hlt
    exact ⟨.tuple #[.bool false], w, .tuple #[.bool false], _, _, ρ, by simp [Instr.next, hget, hsz], rfl, ⟨rfl, rfl⟩, Ro.le_refl _, hr, ⟨_, rfl, .cons rfl .nil⟩, Fram.refl _ _ _⟩

theorem nextMap_ok {b m since last : Nat} {seen : List Nat} {p : Pl} (hg : h.get b = some (.mit m since seen last)) (hp : ρ b = some p) (hr : HRel θ ρ h w) (ty : TypeId) (hb : nextMap h b m since seen last ≠ .bad) :
    GoesV θ P ρ h w (nextMap h b m since seen last) (Instr.next (.pointer (some ⟨p.blk, 0, none⟩)) false ty) := by
  obtain ⟨p', hp', hbase, q, hq, hx⟩ := hr.obj _ _ _ hg (by assumption)
  rw [hp] at hp'; injection hp' with hp'; subst hp'
  have hget := run_getObj (P := P) hx (by simp)
  unfold nextMap at hb ⊢
  split at hb
  · rename_i es clock hm
    obtain ⟨q', hq', xs, hxs, tt⟩ := hr.obj _ _ _ hm (by assumption)
    rw [hq] at hq'; injection hq' with hq'; subst hq'
    have hget2 := run_getObj (P := P) hxs (by simp)
    rw [bsel_eq] at hb
    split at hb
    · exact absurd rfl hb
    · rename_i hc
      rw [bsel_eq, if_neg hc]
      have hc2 : (!seen.reverse.toArray.isEmpty && !xs.isEmpty && xs.all (fun x => decide (x.born ≥ last))) = false := by
        have e1 : xs.isEmpty = es.isEmpty := by
          rw [empty_rel tt]; simp
        have e2 : xs.all (fun x => decide (x.born ≥ last)) = es.all (fun e => Nat.ble last e.born) := by
          rw [← Array.all_toList]
          exact (all_rel (fun e x hx => by rw [nble_iff, hx.2.2]) tt).symm
        rw [e1, e2]
        have e3 : seen.reverse.toArray.isEmpty = seen.isEmpty := by simp
        rw [e3]
        rw [band_eq, band_eq] at hc
        simpa [Bool.and_assoc] using hc
      generalize hleft : xs.filter (fun e => !seen.reverse.toArray.contains e.born) = left'
      generalize hold : left'.filter (fun e => decide (e.born < since)) = old'
      generalize hnew : left'.filter (fun e => decide (e.born ≥ since)) = new'
      have tleft : All2 (MRel θ ρ) (es.filter fun e => !memNat e.born seen) left'.toList := by
        rw [← hleft, Array.toList_filter]
        exact filter_rel (fun e x hx => by rw [memNat_eq, hx.2.2]; simp) tt
      have told : All2 (MRel θ ρ) ((es.filter fun e => !memNat e.born seen).filter fun e => Nat.blt e.born since) old'.toList := by
        rw [← hold, Array.toList_filter]
        exact filter_rel (fun e x hx => by rw [nblt_iff, hx.2.2]) tleft
      have tnew : All2 (MRel θ ρ) ((es.filter fun e => !memNat e.born seen).filter fun e => Nat.ble since e.born) new'.toList := by
        rw [← hnew, Array.toList_filter]
        exact filter_rel (fun e x hx => by rw [nble_iff, hx.2.2]) tleft
      generalize hco : (((if old'.isEmpty then #[none] else #[]) ++ (old' ++ new').map some : Array (Option MapEntry))) = cands
      have hpos : 0 < cands.size := by
        rw [← hco]
        cases he : old'.isEmpty
        · have : 0 < old'.size := by
            rcases Nat.eq_zero_or_pos old'.size with h0 | h0
            · rw [Array.isEmpty] at he; simp [h0] at he
            · exact h0
          simp; omega
        · simp; omega
      have hrun : ∃ j w1, w1.heap = w.heap ∧ (w1.os = w.os ∧ w1.output = w.output) ∧ (choose (.mapNext cands.size)).run P w = .ok j w1 ∧ j < cands.size := by
        rw [run_choose]
        by_cases h1 : cands.size ≤ 1
        · exact ⟨0, w, rfl, ⟨rfl, rfl⟩, by simp [Question.forced, h1], hpos⟩
        · exact ⟨(Question.mapNext cands.size).cut (w.tape w.drawn (.mapNext cands.size)), w.drew, rfl, ⟨rfl, rfl⟩, by simp [Question.forced, h1], by simp only [Question.cut]; exact Nat.mod_lt _ hpos⟩
      obtain ⟨j, w1, hw1, hio, hch, hj⟩ := hrun
      have hbody : (Instr.next (.pointer (some ⟨p.blk, 0, none⟩)) false ty).run P w = (match cands[j]? with
          | some (some e) => (do
              setObj p.blk (.mapIter (some q.blk) since (seen.reverse.toArray.push e.born) clock)
              pure (.tuple #[.bool true, e.key, e.val]) : Sem Value)
          | some none => pure (.tuple #[.bool false])
          | none => stuck "Next: no such candidate").run P w1 := by
        simp only [Instr.next, Sem.run_bind, hget, Result.andThen_ok, hget2, hc2, Bool.false_eq_true, if_false, hleft, hold, hnew, hco, hch]
        rcases cands[j]? with _ | _ | _ <;> rfl
      have hel : cands[j]? = some cands[j] := Array.getElem?_eq_getElem hj
      have hmem : cands[j] ∈ cands := Array.getElem_mem hj
      rw [hel] at hbody
      cases hcj : cands[j] with
      | none =>
        rw [hcj] at hbody hmem
        have hemp : old'.isEmpty = true := by
          rw [← hco] at hmem
          cases he : old'.isEmpty
          · simp [he] at hmem
          · rfl
        refine ⟨.tuple #[.bool false], w1, _, .tup [.bool false], h, ρ, by rw [hbody]; rfl, rfl, outL_has ?_, Ro.le_refl _, hr.same hw1, ⟨_, rfl, .cons rfl .nil⟩, (Fram.refl ρ h w1).same hw1 hio⟩
        refine List.mem_append_left _ ?_
        have : ((es.filter fun e => !memNat e.born seen).filter fun e => Nat.blt e.born since).isEmpty = true := by
          rw [empty_rel told]; simpa using hemp
        rw [this]; simp
      | some e =>
        rw [hcj] at hbody hmem
        have hmem' : e ∈ (old' ++ new').toList := by
          rw [← hco] at hmem
          cases he : old'.isEmpty <;> simp [he] at hmem <;> simp [hmem]
        have tall : All2 (MRel θ ρ) (((es.filter fun e => !memNat e.born seen).filter fun e => Nat.blt e.born since) ++ ((es.filter fun e => !memNat e.born seen).filter fun e => Nat.ble since e.born)) (old' ++ new').toList := by rw [Array.toList_append]; exact told.append tnew
        obtain ⟨i, hi⟩ := List.getElem?_of_mem hmem'
        have hi' : i < (((es.filter fun e => !memNat e.born seen).filter fun e => Nat.blt e.born since) ++ ((es.filter fun e => !memNat e.born seen).filter fun e => Nat.ble since e.born)).length := by
          rw [tall.length]; exact (List.getElem?_eq_some_iff.1 hi).1
        obtain ⟨e', he', hme⟩ := tall.get (List.getElem?_eq_getElem hi')
        rw [hi] at he'; injection he' with he'; subst he'
        have hx1 : w1.heap[p.blk]? = some (.mapIter (some q.blk) since seen.reverse.toArray last) := by rw [hw1]; exact hx
        have hset := run_setObj (P := P) (.mapIter (some q.blk) since (seen.reverse.toArray.push e.born) clock) hx1 (by simp)
        obtain ⟨g1, g2⟩ := (hr.same hw1).put hg hp (.mapIter (some q.blk) since (seen.reverse.toArray.push e.born) clock)
          (o := .mit m since (e.born :: seen) clock) ⟨p, hp, hbase, q, hq, by rw [set_get hx1]; simp⟩
        refine ⟨.tuple #[.bool true, e.key, e.val], { w1 with heap := w1.heap.setIfInBounds p.blk (.mapIter (some q.blk) since (seen.reverse.toArray.push e.born) clock) }, .tuple #[.bool true, e.key, e.val], .tup [.bool true, _, _],
          h.put b (.mit m since (e.born :: seen) clock), ρ, ?_, rfl, outL_has (List.mem_append_right _ (List.mem_map.2 ⟨_, List.getElem_mem hi', ?_⟩)), Ro.le_refl _, ?_, ⟨_, rfl, .cons rfl (.cons (crel_arel hme.1) (.cons hme.2.1 .nil))⟩, ?_⟩
        · rw [hbody]; simp only [Sem.run_bind, hset, Result.andThen_ok, Sem.run_pure]
        · rw [hme.2.2]
        · exact g1
        · exact g2.same hw1 hio
  · exact absurd rfl hb
theorem next_ok {isStr : Bool} {u : V} {x : Value} (hu : VRel θ ρ u x) (hr : HRel θ ρ h w) (ty : TypeId) (hb : nextA isStr h u ≠ .bad) :
    GoesV θ P ρ h w (nextA isStr h u) (Instr.next x isStr ty) := by
  unfold nextA at hb ⊢
  split at hb
  · rename_i b
    obtain ⟨p, hp, rfl⟩ := vrel_ptr hu
    split at hb
    · rename_i m since seen last hg
      rw [bsel_eq] at hb
      split at hb
      · exact absurd rfl hb
      · rename_i hs
        have hs' : isStr = false := by simpa using hs
        subst hs'
        obtain ⟨p', hp', hbase, _⟩ := hr.obj _ _ _ hg (by assumption)
        rw [hp] at hp'; injection hp' with hp'; subst hp'
        rw [hbase]
        exact nextMap_ok hg hp hr ty hb
    · rename_i s n pos hg
      rw [bsel_eq] at hb
      split at hb
      · rename_i hs
        have hs' : isStr = true := hs
        subst hs'
        obtain ⟨p', hp', hbase, _⟩ := hr.obj _ _ _ hg (by assumption)
        rw [hp] at hp'; injection hp' with hp'; subst hp'
        rw [hbase]
        exact nextStr_ok hg hp hr ty hb
      · exact absurd rfl hb
    · exact absurd rfl hb
  · exact absurd rfl hb
end Go.Ev
end

section
set_option autoImplicit false
namespace Go.Ev
variable {θ : Nat → Int} {P : Program} {ρ : Ro} {h : Heap} {w : World}

theorem lenA_ok {u : V} {x : Value} {n : Nat} (hu : VRel θ ρ u x) (hn : lenA u = some n) : (Builtin.lenOf x).run P w = .ok n w := by
  unfold lenA at hn
  split at hn
  · injection hn with hn; subst hn
    obtain ⟨p, _, rfl⟩ := vrel_slice hu; rfl
  · injection hn with hn; subst hn
    obtain ⟨q, o, cap, c, rfl, _⟩ := crel_fz hu; rfl
  · injection hn with hn; subst hn
    obtain rfl : x = Value.slice none 0 0 := hu; rfl
  · injection hn with hn; subst hn
    obtain ⟨a, rfl⟩ : ∃ a, x = Value.slice (some a) 0 0 := hu; rfl
  · injection hn with hn; subst hn
    obtain ⟨h1, _, rfl⟩ := vrel_str hu
    simp [Builtin.lenOf, strOf_size, h1]
  · cases hn

theorem lit_crel {ρ : Ro} {v : V} (hb : ByteOk θ v) (hl : isLit v = true) : CRel θ ρ v (.int .u8 (byteV θ v).toNat) := by
  unfold isLit at hl
  split at hl
  · rename_i n
    show Value.int .u8 _ = Value.int .u8 n
    obtain ⟨h1, h2⟩ : 0 ≤ n ∧ n < 256 := hb
    congr 1
    show ((UInt8.ofNat n.toNat).toNat : Int) = n
    rw [UInt8.toNat_ofNat']; omega
  · cases hl

theorem first_ok {u : V} {x : Value} {size n : Nat} {cs : List V} (hr : HRel θ ρ h w) (hu : VRel θ ρ u x) (hn : firstCellsA h size n u = some cs) :
    ∃ ys, (Builtin.firstCells size n x).run P w = .ok ys w ∧ All2 (CRel θ ρ) cs ys.toList ∧ cs.length = n * size := by
  unfold firstCellsA at hn
  split at hn
  · rename_i b off len cap
    obtain ⟨p, hp, rfl⟩ := vrel_slice hu
    split at hn
    · rename_i c cl tl hb
      obtain ⟨p', xs, hp', hl, lies⟩ := lies_of_rd (hr.obj _ _ _ hb (by assumption)) hn
      rw [hp] at hp'; injection hp' with hp'; subst hp'
      have hrun := run_loadCells_lies (P := P) lies
      rw [hl] at hrun
      exact ⟨xs.toArray, by simp only [Builtin.firstCells]; exact hrun, by simpa using lies.rel, hl⟩
    · cases hn
  · obtain ⟨q, o, cap, c, rfl, _, hq, hz⟩ := crel_fz hu
    obtain ⟨xs, hl, lies⟩ := lies_of_take hr hq hz hn
    have hrun := run_loadCells_lies (P := P) lies
    rw [hl] at hrun
    exact ⟨xs.toArray, by simp only [Builtin.firstCells]; exact hrun, by simpa using lies.rel, hl⟩
  · obtain ⟨h1, h2⟩ := bsel_bad_opt hn
    injection h2 with h2; subst h2
    rw [nbeq_iff, decide_eq_true_iff] at h1; subst h1
    obtain rfl : x = Value.slice none 0 0 := hu
    exact ⟨#[], rfl, .nil, by simp⟩
  · obtain ⟨h1, h2⟩ := bsel_bad_opt hn
    injection h2 with h2; subst h2
    rw [nbeq_iff, decide_eq_true_iff] at h1; subst h1
    obtain ⟨a, rfl⟩ : ∃ a, x = Value.slice (some a) 0 0 := hu
    exact ⟨#[], by simp only [Builtin.firstCells, Nat.zero_mul, loadCells, loadCellsFrom]; rfl, .nil, by simp⟩
  · rename_i m s
    obtain ⟨h1, h2⟩ := bsel_bad_opt hn
    injection h2 with h2; subst h2
    rw [takeV_eq] at *
    simp only [band_eq, Bool.and_eq_true, nble_iff, nbeq_iff, decide_eq_true_iff] at h1
    obtain ⟨h1, h3, h4⟩ := h1
    obtain ⟨hm, hs, rfl⟩ := vrel_str hu
    refine ⟨_, rfl, ?_, by rw [List.length_take, h3]; omega⟩
    have e : (((strOf θ s).extract 0 n).data.map fun b => Value.int .u8 b.toNat).toList = (s.take n).map fun v => Value.int .u8 (byteV θ v).toNat := by
      rw [strOf_extract, List.drop_zero, Nat.sub_zero]
      simp [strOf]
      rfl
    rw [e]
    refine All2.of_get (by simp) fun i v hi => ?_
    have hmem : v ∈ s.take n := List.mem_of_getElem? hi
    refine ⟨.int .u8 (byteV θ v).toNat, by rw [List.getElem?_map, hi]; rfl, lit_crel (hs v (List.mem_of_mem_take hmem)) (List.all_eq_true.1 h4 v hmem)⟩
  · cases hn

/-! ### copy and clear -/
theorem copy_ok {ts : Array TypeId} {ty t e : TypeId} {size : Nat} {u v : V} {x y : Value} (h0 : ts[0]? = some t) (ht : elemOfSlice P t = some e) (hs : szOf P e = some size)
    (hu : VRel θ ρ u x) (hv : VRel θ ρ v y) (hr : HRel θ ρ h w) (hb : copyN size h u v ≠ .bad) : GoesV θ P ρ h w (copyN size h u v) (Builtin.copy_ ts ty #[x, y]) := by
  have hty := elemOfSlice_spec ht
  unfold copyN at hb
  split at hb
  · rename_i ls hls
    have hlen := fun w => lenA_ok (P := P) (w := w) hv hls
    split at hb
    · rename_i b off ld cap
      obtain ⟨p, hp, rfl⟩ := vrel_slice hu
      simp only at hb
      split at hb
      · rename_i cells hc
        obtain ⟨ys, e1, e2, e3⟩ := first_ok (P := P) hr hv hc
        split at hb
        · rename_i h' hst
          obtain ⟨w', f1, f2, f3⟩ := storeCells_ok (P := P) hst hr hp e3 e2
          rw [show copyN size h (.slice b off ld cap) v = .one (.int .i64 (Nat.min ls ld)) h' by simp only [copyN, hls, hc, hst]]
          refine ⟨goInt (Nat.min ls ld : Nat), w', _, _, _, ρ, ?_, rfl, ⟨rfl, rfl⟩, Ro.le_refl _, f2, rfl, f3⟩
          simp only [Builtin.copy_, h0, Sem.run_bind, run_underlying hty, Result.andThen_ok, hlen, run_sizeOf hs, e1, f1, Sem.run_pure, List.getElem?_toArray, List.getElem?_cons_zero, List.getElem?_cons_succ]
        · exact absurd rfl hb
      · exact absurd rfl hb
    · obtain rfl : x = Value.slice none 0 0 := hu
      rw [show copyN size h .nils v = .one (.int .i64 0) h by simp only [copyN, hls]]
      have e1 : ∃ ys, (Builtin.firstCells size 0 y).run P w = .ok ys w := by
        unfold lenA at hls
        split at hls
        · obtain ⟨p, _, rfl⟩ := vrel_slice hv
          exact ⟨#[], by simp [Builtin.firstCells, loadCells, loadCellsFrom]⟩
        · obtain ⟨q, o, cap, c, rfl, _⟩ := crel_fz hv
          exact ⟨#[], by simp [Builtin.firstCells, loadCells, loadCellsFrom]⟩
        · obtain rfl : y = Value.slice none 0 0 := hv; exact ⟨#[], rfl⟩
        · obtain ⟨a, rfl⟩ : ∃ a, y = Value.slice (some a) 0 0 := hv
          exact ⟨#[], by simp [Builtin.firstCells, loadCells, loadCellsFrom]⟩
        · obtain ⟨_, _, rfl⟩ := vrel_str hv; exact ⟨_, rfl⟩
        · cases hls
      obtain ⟨ys, e1⟩ := e1
      refine ⟨goInt 0, w, _, _, _, ρ, ?_, rfl, ⟨rfl, rfl⟩, Ro.le_refl _, hr, rfl, Fram.refl _ _ _⟩
      simp [Builtin.copy_, h0, Sem.run_bind, run_underlying hty, hlen, run_sizeOf hs, e1]
    · exact absurd rfl hb
  · exact absurd rfl hb

theorem clearM_ok {ts : Array TypeId} {ty t k e : TypeId} {u : V} {x : Value} (h0 : ts[0]? = some t) (ht : P.underlying t = some (.map k e)) (hu : VRel θ ρ u x) (hr : HRel θ ρ h w)
    (hb : clearM h [u] ≠ .bad) : GoesV θ P ρ h w (clearM h [u]) (Builtin.clear_ ts ty #[x]) := by
  unfold clearM at hb
  split at hb
  · rename_i b hub
    injection hub with hub _; subst hub
    obtain ⟨p, hp, rfl⟩ : ∃ p, ρ b = some p ∧ x = Value.map (some p.blk) := hu
    split at hb
    · rename_i es clock hm
      obtain ⟨p', hp', xs, hxs, tt⟩ := hr.obj _ _ _ hm (by assumption)
      rw [hp] at hp'; injection hp' with hp'; subst hp'
      have hget := run_getObj (P := P) hxs (by simp)
      have hset := fun o => run_setObj (P := P) o hxs (by simp)
      obtain ⟨g1, g2⟩ := hr.put hm hp (.map #[] clock) (o := .map [] clock) ⟨p, hp, _, set_get hxs, .nil⟩
      rw [show clearM h [.map b] = .one (.tup []) (h.put b (.map [] clock)) by simp only [clearM, hm]]
      refine ⟨.tuple #[], _, _, _, _, ρ, ?_, rfl, ⟨rfl, rfl⟩, Ro.le_refl _, g1, ⟨_, rfl, .nil⟩, g2⟩
      simp [Builtin.clear_, h0, run_underlying ht, hget, hset]
    · exact absurd rfl hb
  · exact absurd rfl hb
end Go.Ev
end

section
set_option autoImplicit false
namespace Go.Ev
variable {θ : Nat → Int} {P : Program} {ρ : Ro} {h : Heap} {w : World}

/-! ### append -/
section
variable {ts : Array TypeId} {ty t t1 e : TypeId} {d : TypeDesc} {size : Nat} {y : Value}
set_option maxHeartbeats 4000000 in
theorem append_nil0 (h0 : ts[0]? = some t) (h1 : ts[1]? = some t1) (ht : P.underlying t = some (.slice e))
    (hd : P.underlying t1 = some d) (hnd : notIntD d = true) (hs : szOf P e = some size) {ys : Array Value} (hy : (Builtin.lenOf y).run P w = .ok 0 w) (hf : (Builtin.firstCells size 0 y).run P w = .ok ys w) :
    (Builtin.append_ ts ty #[.slice none 0 0, y]).run P w = .ok (.slice none 0 0) w := by
  cases d <;> first
    | exact Bool.noConfusion hnd
    | simp [Builtin.append_, h0, h1, run_underlying ht, run_underlying hd, run_sizeOf hs, hy, hf]
set_option maxHeartbeats 4000000 in
theorem append_fits (h0 : ts[0]? = some t) (h1 : ts[1]? = some t1) (ht : P.underlying t = some (.slice e))
    (hd : P.underlying t1 = some d) (hnd : notIntD d = true) (hs : szOf P e = some size) {a : Addr} {sLen sCap n : Nat} (hy : (Builtin.lenOf y).run P w = .ok n w) {ys : Array Value} {w' : World}
    (hf : (Builtin.firstCells size n y).run P w = .ok ys w) (hst : (storeCells (a.add (sLen * size)) ys.toList).run P w = .ok () w') (hfit : sLen + n ≤ sCap) :
    (Builtin.append_ ts ty #[.slice (some a) sLen sCap, y]).run P w = .ok (.slice (some a) (sLen + n) sCap) w' := by
  cases d <;> first
    | exact Bool.noConfusion hnd
    | simp [Builtin.append_, h0, h1, run_underlying ht, run_underlying hd, run_sizeOf hs, hy, hf, hst, hfit]
set_option maxHeartbeats 4000000 in
theorem append_grows (h0 : ts[0]? = some t) (h1 : ts[1]? = some t1) (ht : P.underlying t = some (.slice e))
    (hd : P.underlying t1 = some d) (hnd : notIntD d = true) (hs : szOf P e = some size) {i : TypeInfo} (hi : P.info? e = some i) (hby : i.bytes ≤ 65536) {z : Value} (hz : i.zero = some z)
    {base : Option Addr} {sLen sCap n : Nat} (hy : (Builtin.lenOf y).run P w = .ok n w) {xs ys : Array Value}
    (hxs : (Builtin.firstCells size sLen (.slice base sLen sCap)).run P w.drew = .ok xs w.drew) (hf : (Builtin.firstCells size n y).run P w.drew = .ok ys w.drew)
    (hgrow : ¬ sLen + n ≤ sCap) (hsm : sLen + n ≤ 1000000) :
    (Builtin.append_ ts ty #[.slice base sLen sCap, y]).run P w =
      .ok (.slice (some ⟨w.heap.size, 0, none⟩) (sLen + n) (grownCap w (sLen + n) sCap e))
        (World.push w.drew (.cells (xs ++ ys ++ Builtin.zeroCells z.cells (grownCap w (sLen + n) sCap e - (sLen + n))) e)) := by
  have h63 : ¬ (9223372036854775807 < ((sLen : Int) + (n : Int))) := by omega
  have h48 : ¬ (281474976710656 < Builtin.nextslicecap (sLen + n) sCap * i.bytes) := by
    have := growslice_fits (need := sLen + n) (old := sCap) (bytes := i.bytes) (by omega) (Nat.le_trans (Nat.mul_le_mul hsm hby) (by decide))
    omega
  cases d <;> first
    | exact Bool.noConfusion hnd
    | (simp [Builtin.append_, h0, h1, run_underlying ht, run_underlying hd, run_sizeOf hs, run_typeInfo hi, zeroValue, hz, hy, hf, hxs, hgrow, h63, h48, Question.forced, newRow, grownCap]
       rfl)
end

end Go.Ev
end

section
set_option autoImplicit false
namespace Go.Ev
variable {θ : Nat → Int} {P : Program} {ρ : Ro} {h : Heap} {w : World}

/-- An object is changed in its place and gets a new name. -/
theorem HRel.move {b : Nat} {o0 o : AObj} {p p' : Pl} (hr : HRel θ ρ h w) (hb : h.get b = some o0) (hp : ρ b = some p) (x : Obj) (hblk : p'.blk = p.blk)
    (ho : ORel θ (ρ.ext h.next p') { w with heap := w.heap.setIfInBounds p.blk x } h.next o) :
    HRel θ (ρ.ext h.next p') ((h.del b).new o) { w with heap := w.heap.setIfInBounds p.blk x } ∧
      Fram ρ h w (ρ.ext h.next p') ((h.del b).new o) { w with heap := w.heap.setIfInBounds p.blk x } ∧ ρ.le (ρ.ext h.next p') := by
  have hle := Ro.le_ext p' hr.fresh
  have hget : ∀ a, ((h.del b).new o).get a = if a = h.next then some o else if a = b then none else h.get a := fun a => by
    rw [Heap.get_new, Heap.next_del]
    split
    · rfl
    · rw [Heap.get_del]
  have hold : ∀ a q o', h.get a = some o' → a ≠ b → ρ a = some q → (w.heap.setIfInBounds p.blk x)[q.blk]? = w.heap[q.blk]? := fun a q o' ha hab hq => by
    rw [Array.getElem?_setIfInBounds_ne]
    intro e
    exact hab (hr.inj a b q p o' o0 ha hb hq hp e.symm)
  have hown : ∀ q, ¬ Own ρ h q → ¬ Own (ρ.ext h.next p') ((h.del b).new o) q := by
    rintro q hn ⟨a, r, o', ha, hrr, e⟩
    rw [hget] at ha
    rw [Ro.ext_eq] at hrr
    by_cases ea : a = h.next
    · rw [if_pos ea] at hrr; injection hrr with hrr; subst hrr
      exact hn ⟨b, p, o0, hb, hp, by rw [← hblk]; exact e⟩
    · rw [if_neg ea] at hrr ha
      by_cases e2 : a = b
      · rw [if_pos e2] at ha; cases ha
      · rw [if_neg e2] at ha; exact hn ⟨a, r, o', ha, hrr, e⟩
  refine ⟨⟨?_, ?_, ?_, ?_⟩, ⟨by simp, ?_, Nat.le_succ _, fun y hy hn => ?_, fun q c hz _ _ => hz, rfl, rfl⟩, hle⟩
  · intro a q hq
    show a < h.next + 1 ∧ q.blk < (w.heap.setIfInBounds p.blk x).size
    rw [Array.size_setIfInBounds]
    rw [Ro.ext_eq] at hq
    by_cases e : a = h.next
    · rw [if_pos e] at hq; injection hq with hq; subst hq
      have := hr.dom b p hp
      rw [hblk]; omega
    · rw [if_neg e] at hq; have := hr.dom a q hq; omega
  · intro a o' q0 ha hq0
    rw [hget] at ha
    by_cases e : a = h.next
    · rw [if_pos e] at ha; injection ha with ha; subst ha; rw [e]; exact ho
    · rw [if_neg e] at ha
      by_cases e2 : a = b
      · rw [if_pos e2] at ha; cases ha
      · rw [if_neg e2] at ha
        rw [Ro.ext_ne _ _ e] at hq0
        exact (hr.obj a o' q0 ha hq0).mono hle fun q hq => hold a q o' ha e2 hq
  · intro a c q r o1 o2 ha hc hq hrr he
    rw [hget] at ha hc
    rw [Ro.ext_eq] at hq hrr
    by_cases ea : a = h.next <;> by_cases ec : c = h.next
    · rw [ea, ec]
    · rw [if_pos ea] at hq; rw [if_neg ec] at hrr hc
      injection hq with hq; subst hq
      by_cases e2 : c = b
      · rw [if_pos e2] at hc; cases hc
      · rw [if_neg e2] at hc
        exact absurd (hr.inj c b r p o2 o0 hc hb hrr hp (by rw [← he, hblk])) e2
    · rw [if_neg ea] at hq ha; rw [if_pos ec] at hrr
      injection hrr with hrr; subst hrr
      by_cases e2 : a = b
      · rw [if_pos e2] at ha; cases ha
      · rw [if_neg e2] at ha
        exact absurd (hr.inj a b q p o1 o0 ha hb hq hp (by rw [he, hblk])) e2
    · rw [if_neg ea] at hq ha; rw [if_neg ec] at hrr hc
      by_cases e2 : a = b
      · rw [if_pos e2] at ha; cases ha
      · by_cases e3 : c = b
        · rw [if_pos e3] at hc; cases hc
        · rw [if_neg e2] at ha; rw [if_neg e3] at hc
          exact hr.inj a c q r o1 o2 ha hc hq hrr he
  · intro q c hz
    obtain ⟨⟨e, fr, h1⟩, h2⟩ := hr.frz q c hz
    refine ⟨⟨e, fr, ?_⟩, hown q h2⟩
    show (w.heap.setIfInBounds p.blk x)[q]? = _
    rw [Array.getElem?_setIfInBounds_ne]
    · exact h1
    · intro e'
      exact h2 ⟨b, p, o0, hb, hp, e'⟩
  · intro q hq hn
    refine ⟨?_, hown q hn⟩
    show (w.heap.setIfInBounds p.blk x)[q]? = _
    rw [Array.getElem?_setIfInBounds_ne]
    intro e
    exact hn ⟨b, p, o0, hb, hp, e⟩
  · have e : y ≠ h.next := by omega
    have e2 : y ≠ b := fun e => by rw [e, hp] at hn; cases hn
    exact ⟨by rw [Ro.ext_ne _ _ e]; exact hn, by rw [hget, if_neg e, if_neg e2]⟩
theorem set_self {q : Nat} {x : Obj} (hq : w.heap[q]? = some x) : ({ w with heap := w.heap.setIfInBounds q x } : World) = w := by
  have : w.heap.setIfInBounds q x = w.heap := by
    apply Array.ext_getElem?
    intro k
    rw [Array.getElem?_setIfInBounds]
    by_cases hk : q = k
    · subst hk
      have hlt : q < w.heap.size := (Array.getElem?_eq_some_iff.1 hq).1
      simp [hlt]
      simpa [hlt] using hq.symm
    · simp [hk]
  rw [this]

theorem Fram.del {ρ ρ' : Ro} {h h' : Heap} {w w' : World} {b : Nat} {p : Pl} (hp : ρ b = some p) (f : Fram ρ (h.del b) w ρ' h' w') : Fram ρ h w ρ' h' w' :=
  ⟨f.grow, fun q hq hn => f.keep q hq fun ⟨a, p, o, ha, hp, e⟩ => hn ⟨a, p, o, by
    rw [Heap.get_del] at ha
    split at ha
    · cases ha
    · exact ha, hp, e⟩, f.next, fun x hx hn => by
    obtain ⟨e1, e2⟩ := f.ghost x hx hn
    exact ⟨e1, by rw [e2, Heap.get_del, if_neg (fun e => by rw [e, hp] at hn; cases hn)]⟩, fun q c hz hq hn => f.frz q c hz hq fun ⟨a, p, o, ha, hp, e⟩ => hn ⟨a, p, o, by
    rw [Heap.get_del] at ha
    split at ha
    · cases ha
    · exact ha, hp, e⟩, f.io⟩

theorem append_le (w : World) (need old : Nat) (e : TypeId) : need ≤ grownCap w need old e := grownCap_ge w need old e

/-- the block that append makes -/
theorem grown_ok {e : TypeId} {size n : Nat} {cs : List V} {xs : Array Value} {z : Value} {w1 : World} {cap : Nat} (hr : HRel θ ρ h w1) (hsz : 0 < size) (hl : cs.length = n * size)
    (t : All2 (CRel θ ρ) cs xs.toList) (hz : z.cells.size = size) (hcap : n ≤ cap) :
    HRel θ (ρ.ext h.next ⟨w1.heap.size, 0, cap⟩) (h.new (.blk cs (n * size) (.opn size))) (World.push w1 (.cells (xs ++ Builtin.zeroCells z.cells (cap - n)) e)) ∧
      Fram ρ h w1 (ρ.ext h.next ⟨w1.heap.size, 0, cap⟩) (h.new (.blk cs (n * size) (.opn size))) (World.push w1 (.cells (xs ++ Builtin.zeroCells z.cells (cap - n)) e)) ∧ ρ.le (ρ.ext h.next ⟨w1.heap.size, 0, cap⟩) := by
  have hxl : xs.size = n * size := by rw [← Array.length_toList, ← t.length, hl]
  have hsize : (xs ++ Builtin.zeroCells z.cells (cap - n)).size = cap * size := by
    rw [Array.size_append, hxl, size_zeroCells, hz, ← Nat.add_mul]
    congr 1; omega
  have hle : n * size ≤ cap * size := Nat.mul_le_mul_right _ hcap
  refine new_blk (tl := .opn size) hr hl (by rw [hsize]; exact hle) (fun i v hi => ?_) ⟨hsz, hle, by rw [hsize]; exact Nat.le_refl _⟩
  obtain ⟨x, h1, h2⟩ := t.get hi
  refine ⟨x, ?_, h2⟩
  have hi' : i < xs.size := by rw [hxl, ← hl]; exact (List.getElem?_eq_some_iff.1 hi).1
  rw [Array.getElem?_append_left hi', ← Array.getElem?_toList]
  exact h1

theorem append_ok {ts : Array TypeId} {ty t t1 e : TypeId} {d : TypeDesc} {size : Nat} {u v : V} {x y : Value} (h0 : ts[0]? = some t) (h1 : ts[1]? = some t1) (ht : elemOfSlice P t = some e)
    (hd : P.underlying t1 = some d) (hnd : notIntD d = true) (hs : szOf P e = some size) (hsz : 0 < size) {by' : Nat} (hby' : bytesOf' P e = some by') (hby : by' ≤ 65536)
    {zn : Nat} {zz : List V} (hz : zeroCellsA P e = some (zn, zz)) (hzn : zn = size)
    (hu : VRel θ ρ u x) (hv : VRel θ ρ v y) (hr : HRel θ ρ h w) (hb : appendN size h u v ≠ .bad) : GoesV θ P ρ h w (appendN size h u v) (Builtin.append_ ts ty #[x, y]) := by
  have hty := elemOfSlice_spec ht
  obtain ⟨i, hi, hibytes⟩ : ∃ i, P.info? e = some i ∧ i.bytes = by' := by
    unfold bytesOf' at hby'
    cases hi : P.info? e with
    | none => rw [hi] at hby'; cases hby'
    | some i => rw [hi] at hby'; injection hby' with hby'; exact ⟨i, rfl, hby'⟩
  obtain ⟨z, hzrun, hzlen, hzrel⟩ := zeroCells_spec (P := P) (θ := θ) hz
  have hiz : i.zero = some z := by
    have := hzrun w
    simp only [zeroValue, Sem.run_bind, run_typeInfo hi, Result.andThen_ok] at this
    cases hiz : i.zero with
    | none => rw [hiz] at this; cases this
    | some z' => rw [hiz] at this; injection this with e1 _; rw [e1]
  have hzsize : z.cells.size = size := by rw [← Array.length_toList, ← (hzrel ρ).length, hzlen, hzn]
  unfold appendN at hb
  split at hb
  · exact absurd rfl hb
  rename_i n hn
  have hlen := lenA_ok (P := P) (w := w) hv hn
  split at hb
  · exact absurd rfl hb
  rename_i new hnew
  rw [show appendN size h u v = appendOnto size n new h u by simp only [appendN, hn, hnew]]
  obtain ⟨ys, f1, f2, f3⟩ := first_ok (P := P) hr hv hnew
  obtain ⟨ysd, f1d, f2d, _⟩ := first_ok (P := P) (hr.same (w := w) (w' := w.drew) rfl) hv hnew
  unfold appendOnto at hb
  split at hb
  · obtain rfl : x = Value.slice none 0 0 := hu
    rw [bsel_eq] at hb
    split at hb
    · rename_i hn0
      have hn0' : n = 0 := by simpa [nbeq_iff] using hn0
      subst hn0'
      exact ⟨_, w, _, _, _, ρ, append_nil0 h0 h1 hty hd hnd hs hlen f1, rfl, ⟨rfl, rfl⟩, Ro.le_refl _, hr, rfl, Fram.refl _ _ _⟩
    · rename_i hn0
      have hn0' : n ≠ 0 := by simpa [nbeq_iff] using hn0
      rw [bsel_eq] at hb
      split at hb
      · rename_i hsm
        rw [nble_iff, decide_eq_true_iff] at hsm
        have hrun := append_grows (P := P) (w := w) (ty := ty) h0 h1 hty hd hnd hs hi (by rw [hibytes]; exact hby) hiz (base := none) (sLen := 0) (sCap := 0) hlen (xs := #[]) (ys := ysd) rfl f1d (by omega) (by omega)
        rw [Nat.zero_add] at hrun
        obtain ⟨g1, g2, g3⟩ := grown_ok (e := e) (z := z) (cap := grownCap w n 0 e) (hr.same (w := w) (w' := w.drew) rfl) hsz f3 f2d hzsize (append_le _ _ _ _)
        rw [show appendOnto size n new h .nils = freshSlice h new n size by simp only [appendOnto, bsel_eq, hn0, hsm, nble_iff, decide_true, if_true, Bool.false_eq_true, if_false]]
        rw [Array.empty_append] at hrun
        exact ⟨_, _, _, _, _, _, hrun, rfl, ⟨rfl, rfl⟩, g3, g1, ⟨_, Ro.ext_same _ _ _, rfl⟩, Fram.same (w := w) (w1 := w.drew) rfl ⟨rfl, rfl⟩ g2⟩
      · exact absurd rfl hb
  · obtain ⟨a, rfl⟩ : ∃ a, x = Value.slice (some a) 0 0 := hu
    rw [bsel_eq] at hb
    split at hb
    · rename_i hn0
      have hn0' : n = 0 := by simpa [nbeq_iff] using hn0
      subst hn0'
      have hst : (storeCells (a.add (0 * size)) ys.toList).run P w = .ok () w := by
        have : ys.toList = [] := by
          have := f2.length
          rw [f3, Nat.zero_mul] at this
          exact List.eq_nil_of_length_eq_zero this.symm
        rw [this]; rfl
      have hrun := append_fits (P := P) (w := w) (w' := w) (ty := ty) h0 h1 hty hd hnd hs (a := a) (sLen := 0) (sCap := 0) hlen f1 hst (Nat.le_refl _)
      exact ⟨_, w, _, _, _, ρ, hrun, rfl, ⟨rfl, rfl⟩, Ro.le_refl _, hr, ⟨a, rfl⟩, Fram.refl _ _ _⟩
    · rename_i hn0
      have hn0' : n ≠ 0 := by simpa [nbeq_iff] using hn0
      rw [bsel_eq] at hb
      split at hb
      · rename_i hsm
        rw [nble_iff, decide_eq_true_iff] at hsm
        have e0 : (Builtin.firstCells size 0 (.slice (some a) 0 0)).run P w.drew = .ok #[] w.drew := by simp [Builtin.firstCells, loadCells, loadCellsFrom]
        have hrun := append_grows (P := P) (w := w) (ty := ty) h0 h1 hty hd hnd hs hi (by rw [hibytes]; exact hby) hiz (base := some a) (sLen := 0) (sCap := 0) hlen (xs := #[]) (ys := ysd) e0 f1d (by omega) (by omega)
        rw [Nat.zero_add] at hrun
        obtain ⟨g1, g2, g3⟩ := grown_ok (e := e) (z := z) (cap := grownCap w n 0 e) (hr.same (w := w) (w' := w.drew) rfl) hsz f3 f2d hzsize (append_le _ _ _ _)
        rw [show appendOnto size n new h .fe = freshSlice h new n size by simp only [appendOnto, bsel_eq, hn0, hsm, nble_iff, decide_true, if_true, Bool.false_eq_true, if_false]]
        rw [Array.empty_append] at hrun
        exact ⟨_, _, _, _, _, _, hrun, rfl, ⟨rfl, rfl⟩, g3, g1, ⟨_, Ro.ext_same _ _ _, rfl⟩, Fram.same (w := w) (w1 := w.drew) rfl ⟨rfl, rfl⟩ g2⟩
      · exact absurd rfl hb
  · rename_i l len
    obtain ⟨q, o, c, rfl, hq, hz⟩ := crel_fx hu
    rw [bsel_eq] at hb
    split at hb
    case isFalse => exact absurd rfl hb
    rename_i hsm
    have hsm0 := hsm
    simp only [band_eq, Bool.and_eq_true, nble_iff, nblt_iff, decide_eq_true_eq] at hsm0
    split at hb
    case h_2 => exact absurd rfl hb
    rename_i old hold
    obtain ⟨xs, e3, lies⟩ := lies_of_take (hr.same (w := w) (w' := w.drew) rfl) hq hz hold
    have e1 : (Builtin.firstCells size len (.slice (some ⟨q, o, none⟩) len len)).run P w.drew = .ok xs.toArray w.drew := by
      have hrun := run_loadCells_lies (P := P) lies
      rw [e3] at hrun
      simp only [Builtin.firstCells]; exact hrun
    have e2 : All2 (CRel θ ρ) old xs.toArray.toList := by simpa using lies.rel
    have hrun := append_grows (P := P) (w := w) (ty := ty) h0 h1 hty hd hnd hs hi (by rw [hibytes]; exact hby) hiz (base := some ⟨q, o, none⟩) (sLen := len) (sCap := len) hlen e1 f1d (by omega) hsm0.1
    have tt : All2 (CRel θ ρ) (appV old new) (xs.toArray ++ ysd).toList := by rw [appV_eq, Array.toList_append]; exact e2.append f2d
    have hll : (appV old new).length = (len + n) * size := by rw [appV_eq, List.length_append, e3, f3, Nat.add_mul]
    obtain ⟨g1, g2, g3⟩ := grown_ok (e := e) (z := z) (cap := grownCap w (len + n) len e) (hr.same (w := w) (w' := w.drew) rfl) hsz hll tt hzsize (append_le _ _ _ _)
    rw [show appendOnto size n new h (.fx l len) = freshSlice h (appV old new) (len + n) size by simp only [appendOnto, hsm, bsel_true, hold]]
    exact ⟨_, _, _, _, _, _, hrun, rfl, ⟨rfl, rfl⟩, g3, g1, ⟨_, Ro.ext_same _ _ _, rfl⟩, Fram.same (w := w) (w1 := w.drew) rfl ⟨rfl, rfl⟩ g2⟩
  · rename_i b off len cap
    obtain ⟨p, hp, rfl⟩ := vrel_slice hu
    rw [bsel_eq] at hb
    split at hb
    case isFalse => exact absurd rfl hb
    rename_i hsm
    have hsm' : len + n ≤ 1000000 := by simpa [nble_iff] using hsm
    have hvs : VRel θ ρ (.slice b off len cap) (.slice (some ⟨p.blk, p.base + off, none⟩) len (cap.of p)) := ⟨p, hp, rfl⟩
    -- a new row
    have grow : ∀ old, firstCellsA h size len (.slice b off len cap) = some old → ¬ len + n ≤ cap.of p → GoesV θ P ρ h w (freshSlice h (appV old new) (len + n) size) (Builtin.append_ ts ty #[.slice (some ⟨p.blk, p.base + off, none⟩) len (cap.of p), y]) := by
      intro old hold hng
      obtain ⟨xsd, e1, e2, e3⟩ := first_ok (P := P) (hr.same (w := w) (w' := w.drew) rfl) hvs hold
      have hrun := append_grows (P := P) (w := w) (ty := ty) h0 h1 hty hd hnd hs hi (by rw [hibytes]; exact hby) hiz (base := some ⟨p.blk, p.base + off, none⟩) (sLen := len) (sCap := cap.of p) hlen e1 f1d hng hsm'
      have tt : All2 (CRel θ ρ) (appV old new) (xsd ++ ysd).toList := by rw [appV_eq, Array.toList_append]; exact e2.append f2d
      have hll : (appV old new).length = (len + n) * size := by rw [appV_eq, List.length_append, e3, f3, Nat.add_mul]
      obtain ⟨g1, g2, g3⟩ := grown_ok (e := e) (z := z) (cap := grownCap w (len + n) (cap.of p) e) (hr.same (w := w) (w' := w.drew) rfl) hsz hll tt hzsize (append_le _ _ _ _)
      exact ⟨_, _, _, _, _, _, hrun, rfl, ⟨rfl, rfl⟩, g3, g1, ⟨_, Ro.ext_same _ _ _, rfl⟩, Fram.same (w := w) (w1 := w.drew) rfl ⟨rfl, rfl⟩ g2⟩
    -- in its place
    have place : ∀ h', storeCellsA h b (off + len * size) (n * size) new = some h' → len + n ≤ cap.of p → GoesV θ P ρ h w (.one (.slice b off (len + n) cap) h') (Builtin.append_ ts ty #[.slice (some ⟨p.blk, p.base + off, none⟩) len (cap.of p), y]) := by
      intro h' hst hfit
      obtain ⟨w', e1, e2, e3⟩ := storeCells_ok (P := P) hst hr hp f3 f2
      rw [← Nat.add_assoc] at e1
      have hrun := append_fits (P := P) (w := w) (ty := ty) h0 h1 hty hd hnd hs (a := ⟨p.blk, p.base + off, none⟩) (sLen := len) (sCap := cap.of p) hlen f1 (by rw [addr_add]; exact e1) hfit
      exact ⟨_, _, _, _, _, ρ, hrun, rfl, ⟨rfl, rfl⟩, Ro.le_refl _, e2, ⟨p, hp, rfl⟩, e3⟩
    split at hb
    · rename_i c
      rw [bsel_eq] at hb
      split at hb
      · rename_i hfit
        have hfit' : len + n ≤ c := by simpa [nble_iff] using hfit
        split at hb
        · rename_i h' hst
          rw [show appendOnto size n new h (.slice b off len (.exact c)) = .one (.slice b off (len + n) (.exact c)) h' by
            simp only [appendOnto, hsm, bsel_true, hfit, hst]]
          exact place h' hst hfit'
        · exact absurd rfl hb
      · rename_i hfit
        have hfit' : ¬ len + n ≤ c := by simpa [nble_iff] using hfit
        have hfit2 : Nat.ble (len + n) c = false := Bool.eq_false_iff.2 hfit
        split at hb
        · rename_i old hold
          rw [show appendOnto size n new h (.slice b off len (.exact c)) = freshSlice h (appV old new) (len + n) size by
            simp only [appendOnto, hsm, bsel_true, hfit2, bsel_false, hold]]
          exact grow old hold hfit'
        · exact absurd rfl hb
    · rename_i k
      split at hb
      · rename_i c cl sz hg
        rw [bsel_eq] at hb
        split at hb
        case isFalse => exact absurd rfl hb
        rename_i hc
        have hc' : sz = size ∧ off = k * size := by simpa [nbeq_iff] using hc
        obtain ⟨rfl, hoff⟩ := hc'
        obtain ⟨p', hp', hcl, arr, ety, fr, harr, hfr, hsize, hcells, htl0, htl1, htl2⟩ := hr.obj _ _ _ hg (by assumption)
        rw [hp] at hp'; injection hp' with hp'; subst hp'
        rw [bsel_eq] at hb
        split at hb
        · rename_i hin
          have hin' : off + (len + n) * sz ≤ cl := by simpa [nble_iff] using hin
          have hfit' : len + n ≤ (ACap.rest k).of p := by
            show len + n ≤ p.cap - k
            rw [hoff, ← Nat.add_mul] at hin'
            have := Nat.le_of_mul_le_mul_right (Nat.le_trans hin' htl1) htl0
            omega
          split at hb
          · rename_i h' hst
            rw [show appendOnto sz n new h (.slice b off len (.rest k)) = .one (.slice b off (len + n) (.rest k)) h' by
              simp only [appendOnto, hsm, bsel_true, hg, hc, hin, hst]]
            exact place h' hst hfit'
          · exact absurd rfl hb
        · rename_i hin
          have hin2 : Nat.ble (off + (len + n) * sz) cl = false := Bool.eq_false_iff.2 hin
          rw [bsel_eq] at hb
          split at hb
          case isFalse => exact absurd rfl hb
          rename_i hend
          have hend' : off + len * sz = cl := by simpa [nbeq_iff] using hend
          rw [show appendOnto sz n new h (.slice b off len (.rest k)) = .one (.slice h.next 0 (len + n) (.rest 0)) ((h.del b).new (.blk (appV (dropV off c) new) ((len + n) * sz) (.opn sz))) by
              simp only [appendOnto, hsm, bsel_true, hg, hc, hin2, bsel_false, hend]]
          have hold : firstCellsA h sz len (.slice b off len (.rest k)) = some (dropV off c) := by
            have hble : Nat.ble (off + len * sz) cl = true := by rw [nble_iff, decide_eq_true_iff]; omega
            simp only [firstCellsA, hg, rd, hble, bsel_true]
            congr 1
            rw [bsel_eq, takeV_eq, dropV_eq]
            split
            · rename_i h2
              have h3 : off = 0 := by
                rw [band_eq, Bool.and_eq_true, nbeq_iff, decide_eq_true_iff] at h2
                exact h2.1
              rw [h3, List.drop_zero]
            · exact List.take_of_length_le (by rw [List.length_drop]; omega)
          have hkl : k + len ≤ p.cap := by
            rw [hoff, ← Nat.add_mul] at hend'
            rw [← hend'] at htl1
            exact Nat.le_of_mul_le_mul_right htl1 htl0
          have hcatl : (appV (dropV off c) new).length = (len + n) * sz := by
            rw [appV_eq, dropV_eq, List.length_append, List.length_drop, f3, Nat.add_mul]; omega
          by_cases hfit : len + n ≤ (ACap.rest k).of p
          · -- there is room
            have hfit' : len + n ≤ p.cap - k := hfit
            have hyl : ys.toList.length = n * sz := by rw [← f2.length, f3]
            have hcapk : k * sz + (p.cap - k) * sz = p.cap * sz := by rw [← Nat.add_mul]; congr 1; omega
            have hneed : (len + n) * sz ≤ (p.cap - k) * sz := Nat.mul_le_mul_right _ hfit'
            have hsplit : (len + n) * sz = len * sz + n * sz := Nat.add_mul ..
            have hbig : p.base + off + len * sz + ys.toList.length ≤ arr.size := by rw [hyl]; omega
            have hone : ∀ x ∈ ys.toList, x.oneCell' = true := fun x hx => by
              obtain ⟨i, hi⟩ := List.getElem?_of_mem hx
              have hi' : i < new.length := by rw [f2.length]; exact (List.getElem?_eq_some_iff.1 hi).1
              obtain ⟨x', hx', hrel⟩ := f2.get (List.getElem?_eq_getElem hi')
              rw [hi] at hx'; injection hx' with hx'; subst hx'
              exact crel_oneCell hrel
            have hst := run_storeCells_free (P := P) (o := p.base + off + len * sz) hfr ys.toList 0 arr w harr (by omega) hone
            rw [setRow_put harr] at hst
            have hrun := append_fits (P := P) (w := w) (ty := ty) h0 h1 hty hd hnd hs (a := ⟨p.blk, p.base + off, none⟩) (sLen := len) (sCap := (ACap.rest k).of p) hlen f1 (by rw [addr_add]; exact hst) hfit
            have hle := Ro.le_ext (⟨p.blk, p.base + off, p.cap - k⟩ : Pl) hr.fresh
            obtain ⟨g1, g2, g3⟩ := hr.move hg hp (.cells (arr.toList.take (p.base + off + len * sz + 0) ++ ys.toList ++ arr.toList.drop (p.base + off + len * sz + 0 + ys.toList.length)).toArray ety fr)
              (p' := ⟨p.blk, p.base + off, p.cap - k⟩) (o := .blk (appV (dropV off c) new) ((len + n) * sz) (.opn sz)) rfl
              ⟨_, Ro.ext_same _ _ _, hcatl, _, ety, fr, set_get harr, hfr, by simp; omega, fun i v hi => by
                simp only [List.getElem?_toArray, Nat.add_zero]
                rw [seg_get arr.toList ys.toList (p.base + off + len * sz) (p.base + off + i) (by simpa using hbig)]
                rw [appV_eq, dropV_eq, List.getElem?_append] at hi
                have hdl : (c.drop off).length = len * sz := by rw [List.length_drop]; omega
                rw [hdl] at hi
                by_cases h1 : i < len * sz
                · rw [if_pos h1, List.getElem?_drop] at hi
                  rw [if_pos (by omega), Array.getElem?_toList, Nat.add_assoc]
                  obtain ⟨x, q1, q2⟩ := hcells _ _ hi
                  exact ⟨x, q1, q2.mono hle⟩
                · rw [if_neg h1] at hi
                  have hin : i - len * sz < new.length := (List.getElem?_eq_some_iff.1 hi).1
                  rw [if_neg (by omega), if_pos (by omega), show p.base + off + i - (p.base + off + len * sz) = i - len * sz by omega]
                  obtain ⟨x, q1, q2⟩ := f2.get hi
                  exact ⟨x, q1, q2.mono hle⟩, htl0, hneed, by simp; omega⟩
            exact ⟨_, _, _, _, _, _, hrun, rfl, ⟨rfl, rfl⟩, g3, g1, ⟨_, Ro.ext_same _ _ _, rfl⟩, g2⟩
          · -- there is none
            obtain ⟨xsd, e1, e2, e3⟩ := first_ok (P := P) (hr.same (w := w) (w' := w.drew) rfl) hvs hold
            have hrun := append_grows (P := P) (w := w) (ty := ty) h0 h1 hty hd hnd hs hi (by rw [hibytes]; exact hby) hiz (base := some ⟨p.blk, p.base + off, none⟩) (sLen := len) (sCap := (ACap.rest k).of p) hlen e1 f1d hfit hsm'
            have tt : All2 (CRel θ ρ) (appV (dropV off c) new) (xsd ++ ysd).toList := by rw [appV_eq, Array.toList_append]; exact e2.append f2d
            obtain ⟨g1, g2, g3⟩ := grown_ok (e := e) (z := z) (cap := grownCap w (len + n) ((ACap.rest k).of p) e) ((hr.del b).same (w := w) (w' := w.drew) rfl) hsz hcatl tt hzsize (append_le _ _ _ _)
            exact ⟨_, _, _, _, _, _, hrun, rfl, ⟨rfl, rfl⟩, g3, g1, ⟨_, Ro.ext_same _ _ _, rfl⟩, (Fram.same (w := w) (w1 := w.drew) rfl ⟨rfl, rfl⟩ g2).del hp⟩
      · exact absurd rfl hb
  · exact absurd rfl hb
end Go.Ev
end

section
set_option autoImplicit false
namespace Go.Ev
variable {θ : Nat → Int} {P : Program} {ρ : Ro} {h : Heap} {w : World}

theorem sliceSl_ok {t e : TypeId} {s : Nat} {u : V} {x : Value} {lo hi mx : Option Nat} {xl xh xm : Option Value} (hu : P.underlying t = some (.slice e)) (hs : szOf P e = some s) (hr0 : HRel θ ρ h w)
    (hr : VRel θ ρ u x) (hl : BRel lo xl) (hh : BRel hi xh) (hm : BRel mx xm) (hno : mx.isSome = true → hi.isSome = true) (hb : sliceSl s h u lo hi mx ≠ .bad) :
    GoesV θ P ρ h w (sliceSl s h u lo hi mx) (Instr.sliceAt t x xl xh xm) := by
  unfold sliceSl at hb
  split at hb
  · rename_i b off len k
    simp only at hb
    split at hb
    · rename_i c cl sz hg
      rw [bsel_eq] at hb
      split at hb
      case isFalse => exact absurd rfl hb
      rename_i hc
      have hc' := hc
      simp only [band_eq, Bool.and_eq_true, nbeq_iff, decide_eq_true_eq] at hc'
      obtain ⟨hsz, hoff, hlh, hcl0⟩ := hc'
      obtain ⟨p, hp, rfl⟩ := vrel_slice hr
      obtain ⟨p', hp', hcl, arr, ty, fr, harr, hfr, hbs, hcell, h0, hcap, hroom⟩ := hr0.obj _ _ _ hg (by assumption)
      rw [hp] at hp'; injection hp' with hp'; subst hp'
      subst hsz
      have hk : k + lo.getD 0 ≤ p.cap := by
        have h3 : (k + lo.getD 0) * sz ≤ p.cap * sz := by rw [Nat.add_mul, ← hoff, hcl0]; exact hcap
        exact Nat.le_of_mul_le_mul_right h3 h0
      have hbnd := run_sliceBounds (P := P) (w := w) (isSl := true) (len := len) (cap := p.cap - k) hl hh hm (Nat.le_refl _) (by show hi.getD len ≤ p.cap - k; omega) (by omega) hno
      have hself := set_self harr
      have hcapk : (k + lo.getD 0) * sz + (p.cap - k - lo.getD 0) * sz = p.cap * sz := by rw [← Nat.add_mul]; congr 1; omega
      have hkl : (k + lo.getD 0) * sz = off + lo.getD 0 * sz := by rw [Nat.add_mul, hoff]
      rw [show sliceSl sz h (.slice b off len (.rest k)) lo hi none = .one (.slice h.next 0 0 (.rest 0)) ((h.del b).new (.blk [] 0 (.opn sz))) by
        simp only [sliceSl, hg, hc, bsel_true]]
      have fin : ∀ B, (B = p.base + off + lo.getD 0 * sz ∨ (B = p.base + off ∧ p.cap - k = lo.getD 0)) →
          (Instr.sliceAt t (.slice (some ⟨p.blk, p.base + off, none⟩) len (p.cap - k)) xl xh xm).run P w = .ok (.slice (some ⟨p.blk, B, none⟩) 0 (p.cap - k - lo.getD 0)) w →
          GoesV θ P ρ h w (.one (.slice h.next 0 0 (.rest 0)) ((h.del b).new (.blk [] 0 (.opn sz)))) (Instr.sliceAt t (.slice (some ⟨p.blk, p.base + off, none⟩) len (p.cap - k)) xl xh xm) := by
        intro B hB hrun
        have hBle : B + (p.cap - k - lo.getD 0) * sz ≤ arr.size := by
          rcases hB with rfl | ⟨rfl, h2⟩
          · omega
          · rw [h2, Nat.sub_self, Nat.zero_mul]
            omega
        obtain ⟨g1, g2, g3⟩ := hr0.move hg hp (.cells arr ty fr) (p' := ⟨p.blk, B, p.cap - k - lo.getD 0⟩) (o := .blk [] 0 (.opn sz)) rfl
          ⟨_, Ro.ext_same _ _ _, rfl, arr, ty, fr, set_get harr, hfr, by show B + 0 ≤ arr.size; omega, fun i v hi => by simp at hi, h0, Nat.zero_le _, hBle⟩
        rw [hself] at g1 g2
        exact ⟨_, w, _, _, _, _, hrun, rfl, ⟨rfl, rfl⟩, g3, g1, ⟨_, Ro.ext_same _ _ _, rfl⟩, g2⟩
      have hrun : (Instr.sliceAt t (.slice (some ⟨p.blk, p.base + off, none⟩) len (p.cap - k)) xl xh xm).run P w =
          .ok (.slice (if p.cap - k = lo.getD 0 then some ⟨p.blk, p.base + off, none⟩ else some ⟨p.blk, p.base + off + lo.getD 0 * sz, none⟩) (hi.getD len - lo.getD 0) (p.cap - k - lo.getD 0)) w := by
        simp only [Instr.sliceAt, Sem.run_bind, run_underlying hu, Result.andThen_ok, Instr.slice, hbnd, run_sizeOf hs, opt_add, Option.getD_none]
        rfl
      rw [← hlh, Nat.sub_self] at hrun
      by_cases e1 : p.cap - k = lo.getD 0
      · rw [if_pos e1] at hrun
        exact fin _ (.inr ⟨rfl, e1⟩) hrun
      · rw [if_neg e1] at hrun
        exact fin _ (.inl rfl) hrun
    · exact absurd rfl hb
  · exact absurd rfl hb

theorem makeSlice_ok {t e : TypeId} {s m by' : Nat} {z : List V} {u v : V} {x y : Value} (ht : elemOfSlice P t = some e) (hs : szOf P e = some s) (hz : zeroCellsA P e = some (m, z)) (hby : bytesOf' P e = some by')
    (hsm : s = m) (hm : 0 < m) (hu : VRel θ ρ u x) (hv : VRel θ ρ v y) (hr : HRel θ ρ h w) (hb : oMakeSlice m z by' h u v ≠ .bad) : GoesV θ P ρ h w (oMakeSlice m z by' h u v) (Instr.makeSlice t x y) := by
  subst hsm
  have hty := elemOfSlice_spec ht
  obtain ⟨i, hi, hibytes⟩ : ∃ i, P.info? e = some i ∧ i.bytes = by' := by
    unfold bytesOf' at hby
    cases hi : P.info? e with
    | none => rw [hi] at hby; cases hby
    | some i => rw [hi] at hby; injection hby with hby; exact ⟨i, rfl, hby⟩
  obtain ⟨zv, hzrun, hzlen, hzrel⟩ := zeroCells_spec (P := P) (θ := θ) hz
  unfold oMakeSlice at hb
  split at hb
  · rename_i l c hl hc
    obtain ⟨k1, rfl⟩ := natLit_spec hl
    obtain ⟨k2, rfl⟩ := natLit_spec hc
    rw [bsel_eq] at hb
    split at hb
    case isFalse => exact absurd rfl hb
    rename_i hcond
    have hcond' := hcond
    simp only [band_eq, Bool.and_eq_true, nble_iff, decide_eq_true_eq] at hcond'
    obtain ⟨hlc, hroom, hsmall⟩ := hcond'
    obtain rfl := vrel_int hu
    obtain rfl := vrel_int hv
    have w1 : IntKind.i64.wrap (l : Int) = l := wrap_signed .i64 rfl _ (by simp only [IntKind.bits]; omega) (by simp only [IntKind.bits]; omega)
    have w2 : IntKind.i64.wrap (c : Int) = c := wrap_signed .i64 rfl _ (by simp only [IntKind.bits]; omega) (by simp only [IntKind.bits]; omega)
    rw [show oMakeSlice s z by' h (.int k1 l) (.int k2 c) = .one (.slice h.next 0 l (.exact c)) (h.new (.blk (replV z c) (c * s) .exact)) by
      unfold oMakeSlice; rw [hl, hc]; show bsel _ _ _ = _; rw [hcond]; rfl]
    have hfit : ¬ ((by' : Int) * (c : Int) > 2 ^ 48) := by
      have : by' * c ≤ 140737488355328 := by rw [Nat.mul_comm]; exact hroom
      have h2 := Int.ofNat_le.2 this
      rw [Int.natCast_mul] at h2
      omega
    have hf1 : ¬ ((c : Int) < 0) := by omega
    have hf2 : ¬ ((l : Int) < 0) := by omega
    have hf3 : ¬ ((l : Int) > (c : Int)) := by omega
    have hrun : ∃ arr : Array Value, (Instr.makeSlice t (.int k1 l) (.int k2 c)).run P w = .ok (.slice (some ⟨w.heap.size, 0, none⟩) l c) (World.push w (.cells arr e)) ∧ All2 (CRel θ ρ) (replV z c) arr.toList := by
      have head : ∀ (r : Result Value), ((do
          askRoom ((c : Int).toNat * i.bytes)
          let n := (c : Int).toNat * s
          let zero ← if n = 0 then pure #[] else do pure (← zeroValue e).cells
          let a ← newRow e ((Array.range n).map (zero[· % zero.size]!))
          pure (.slice (some a) (l : Int).toNat (c : Int).toNat)) : Sem Value).run P w = r → (Instr.makeSlice t (.int k1 l) (.int k2 c)).run P w = r := by
        intro r hr
        rw [← hr]
        have hfit' : ¬ ((i.bytes : Int) * (c : Int) > 2 ^ 48) := by rw [hibytes]; exact hfit
        simp only [Instr.makeSlice, Sem.run_bind, run_underlying hty, asInt, asIntOf, run_typeInfo hi, run_sizeOf hs, w1, w2, Result.andThen_ok, Sem.run_pure, hf1, hf2, hf3, hfit', decide_false, Bool.or_false, Bool.false_eq_true, if_false]
      by_cases hc0 : c * s = 0
      · have hc00 : c = 0 := by rcases Nat.mul_eq_zero.1 hc0 with h1 | h1 <;> omega
        have hl0 : l = 0 := by omega
        subst hc00 hl0
        refine ⟨#[], head _ ?_, ?_⟩
        · have h0 : Array.range 0 = #[] := Array.eq_empty_of_size_eq_zero (by simp)
          simp [newRow, h0]; rfl
        · rw [show replV z 0 = [] from rfl]; exact .nil
      · refine ⟨(Array.range (c * s)).map (zv.cells[· % zv.cells.size]!), head _ ?_, repl_rel (hzrel ρ) c (by rw [hzlen])⟩
        simp only [Int.toNat_natCast, hc0, if_false, Sem.run_bind, run_askRoom, Result.andThen_ok, hzrun, Sem.run_pure, newRow, run_newObj]
        rfl
    obtain ⟨arr, hrun, harr⟩ := hrun
    obtain ⟨f1, f2⟩ := all2_cells harr
    have hlen : (replV z c).length = c * s := by rw [replV_len, hzlen]
    obtain ⟨g1, g2, g3⟩ := new_blk (tl := .exact) (cap := 0) (e := e) hr hlen (by omega) f2 trivial
    exact ⟨_, _, _, _, _, _, hrun, rfl, ⟨rfl, rfl⟩, g3, g1, ⟨_, Ro.ext_same _ _ _, rfl⟩, g2⟩
  · exact absurd rfl hb

theorem buildSlice_ok {c : Cx} {env : List V} {tm : PT V} {a : Act} {t e : TypeId} {n m len : Nat} {z : List V} {ps : List (Nat × Operand)} (ht : elemOfSlice P t = some e) (hn : szOf P e = some n) (hz : zeroCellsA P e = some (m, z))
    (hmn : m = n) (hlim : len * n ≤ 16777216) (hg : GOk θ c.gl ρ) (htm : ∀ t, Operand.tmp t ∈ ps.map (·.2) → TRel θ ρ c env tm a t) (hr : HRel θ ρ h w) {call : CallF}
    (hb : oBuildSlice (len * n) (replV z len) len n (pfs c ps) call env tm h ≠ .bad) :
    GoesV θ P ρ h w (oBuildSlice (len * n) (replV z len) len n (pfs c ps) call env tm h) (Instr.buildSlice t len (ps.map fun x => (x.1, a.eval x.2)).toArray) := by
  subst hmn
  have hty := elemOfSlice_spec ht
  obtain ⟨zv, hzrun, hzlen, hzrel⟩ := zeroCells_spec (P := P) (θ := θ) hz
  unfold oBuildSlice at hb
  split at hb
  · rename_i vs hvs
    split at hb
    · rename_i cs hcs
      rw [show oBuildSlice (len * m) (replV z len) len m (pfs c ps) call env tm h = .one (.slice h.next 0 len (.exact len)) (h.new (.blk cs (len * m) .exact)) by
        simp only [oBuildSlice, hvs, hcs]]
      have hzz : ∃ zero : Array Value, ((len * m = 0 ∧ zero = #[]) ∨ (len * m ≠ 0 ∧ zero = zv.cells)) ∧ All2 (CRel θ ρ) (replV z len) ((Array.range (len * m)).map (zero[· % zero.size]!)).toList := by
        by_cases h0 : len * m = 0
        · refine ⟨#[], .inl ⟨h0, rfl⟩, ?_⟩
          have h1 : replV z len = [] := List.length_eq_zero_iff.1 (by rw [replV_len, hzlen, h0])
          rw [h1, h0, Array.eq_empty_of_size_eq_zero (xs := Array.range 0) (by simp), Array.map_empty]
          exact .nil
        · exact ⟨zv.cells, .inr ⟨h0, rfl⟩, repl_rel (hzrel ρ) len (by rw [hzlen])⟩
      obtain ⟨zero, hz1, hz2⟩ := hzz
      obtain ⟨ys, e1, e2, e3⟩ := fill_ok (θ := θ) (ρ := ρ) (len := len * m) (place' := fun i => some (i * m, m)) (fun i r hr => hr) (evParts_ok hg htm hvs) (by rw [replV_len, hzlen]) hz2 hcs
      obtain ⟨f1, f2⟩ := all2_cells e3
      obtain ⟨g1, g2, g3⟩ := new_blk (tl := .exact) (cap := 0) (e := e) hr e2 (by omega) f2 trivial
      refine ⟨.slice (some ⟨w.heap.size, 0, none⟩) len len, World.push w (.cells ys e), _, _, _, _, ?_, rfl, ⟨rfl, rfl⟩, g3, g1, ⟨_, Ro.ext_same _ _ _, rfl⟩, g2⟩
      have hl : ¬ (len * m > 2 ^ 24) := by omega
      rcases hz1 with ⟨h0, rfl⟩ | ⟨h0, rfl⟩
      · simp only [Instr.buildSlice, Sem.run_bind, run_underlying hty, Result.andThen_ok, run_sizeOf hn, hl, if_false, if_pos h0, Sem.run_pure]
        simp only [e1]
        rfl
      · simp only [Instr.buildSlice, Sem.run_bind, run_underlying hty, Result.andThen_ok, run_sizeOf hn, hl, if_false, if_neg h0, hzrun, Sem.run_pure]
        simp only [e1]
        rfl
    · exact absurd rfl hb
  · exact absurd rfl hb

theorem clearS_ok {ts : Array TypeId} {ty t e : TypeId} {m : Nat} {z : List V} {u : V} {x : Value} (h0 : ts[0]? = some t) (ht : P.underlying t = some (.slice e)) (hz : zeroCellsA P e = some (m, z)) (hu : VRel θ ρ u x) (hr : HRel θ ρ h w)
    (hb : clearS m z h [u] ≠ .bad) : GoesV θ P ρ h w (clearS m z h [u]) (Builtin.clear_ ts ty #[x]) := by
  obtain ⟨zv, hzrun, hzlen, hzrel⟩ := zeroCells_spec (P := P) (θ := θ) hz
  unfold clearS at hb
  split at hb
  · rename_i b off n cap hub
    injection hub with hub _; subst hub
    obtain ⟨p, hp, rfl⟩ := vrel_slice hu
    obtain ⟨h', hs⟩ := outH_ne hb
    have hsz : zv.cells.size = z.length := by rw [← Array.length_toList, (hzrel ρ).length]
    obtain ⟨w', e1, e2, e3⟩ := storeCells_ok (P := P) hs hr hp (by rw [replV_len, hzlen]) (repl_rel (hzrel ρ) n (N := n * zv.cells.size) (by rw [hsz]))
    rw [show clearS m z h [.slice b off n cap] = outH (storeCellsA h b off (n * m) (replV z n)) from rfl, hs]
    cases n with
    | zero =>
      refine ⟨.tuple #[], w', _, _, _, ρ, ?_, rfl, ⟨rfl, rfl⟩, Ro.le_refl _, e2, undef_rel _, e3⟩
      have hw : w' = w := by
        have hnil : ((Array.range (0 * zv.cells.size)).map (zv.cells[· % zv.cells.size]!)).toList = [] := by
          rw [Nat.zero_mul, Array.eq_empty_of_size_eq_zero (xs := Array.range 0) (by simp), Array.map_empty]
        rw [hnil] at e1
        injection e1 with _ e1; exact e1.symm
      rw [hw]
      simp [Builtin.clear_, h0, run_underlying ht]
    | succ n =>
      refine ⟨.tuple #[], w', _, _, _, ρ, ?_, rfl, ⟨rfl, rfl⟩, Ro.le_refl _, e2, undef_rel _, e3⟩
      simp only [Builtin.clear_, h0, Sem.run_bind, List.getElem?_toArray, List.getElem?_cons_zero, run_underlying ht, Result.andThen_ok, hzrun, Builtin.zeroCells, e1, Sem.run_pure]
  · rename_i hub
    injection hub with hub _; subst hub
    obtain rfl : x = Value.slice none 0 0 := hu
    exact ⟨.tuple #[], w, _, _, _, ρ, by simp [Builtin.clear_, h0, run_underlying ht], rfl, ⟨rfl, rfl⟩, Ro.le_refl _, hr, undef_rel _, Fram.refl _ _ _⟩
  · exact absurd rfl hb
end Go.Ev
end

section
set_option autoImplicit false
namespace Go.Ev
variable {θ : Nat → Int} {P : Program} {ρ : Ro} {h : Heap} {w : World}
variable {c : Cx} {env : List V} {tm : PT V} {a : Act}

def NameOk (P : Program) : Prop := ∀ (f : FuncId) (fn : Func), P.funcs[f]? = some fn → (fn.name == "runtime.NumGoroutine") = false
theorem run_enter (hN : NameOk P) {f : FuncId} {fn : Func} {b : Code} (hf : P.funcs[f]? = some fn) (hb : fn.body = some b) (args : Array Value) : (callFunc f args).run P w = .ok (.enter f args) w := by
  have h1 : fn.name ≠ "runtime.NumGoroutine" := by simpa using hN f fn hf
  simp [callFunc, hf, h1, hb]

theorem bindV_spec {x : Option V} {f : V → Out} (hb : bindV x f ≠ .bad) : ∃ v, x = some v ∧ bindV x f = f v := by
  cases x with
  | none => exact absurd rfl hb
  | some v => exact ⟨v, rfl, rfl⟩
theorem o1_spec {f : H1} {x : OF} {call : CallF} (hb : o1 f x call env tm h ≠ .bad) : ∃ u, ev x env tm = some u ∧ o1 f x call env tm h = f h u := bindV_spec hb
theorem o2_spec {f : Heap → V → V → Out} {x y : OF} {call : CallF} (hb : o2 f x y call env tm h ≠ .bad) : ∃ u v, ev x env tm = some u ∧ ev y env tm = some v ∧ o2 f x y call env tm h = f h u v := by
  unfold o2 at hb ⊢
  obtain ⟨u, e1, e2⟩ := bindV_spec hb
  rw [e2] at hb ⊢
  obtain ⟨v, e3, e4⟩ := bindV_spec hb
  exact ⟨u, v, e1, e3, e4⟩
theorem o3_spec {f : Heap → V → V → V → Out} {x y z : OF} {call : CallF} (hb : o3 f x y z call env tm h ≠ .bad) :
    ∃ u v t, ev x env tm = some u ∧ ev y env tm = some v ∧ ev z env tm = some t ∧ o3 f x y z call env tm h = f h u v t := by
  unfold o3 at hb ⊢
  obtain ⟨u, e1, e2⟩ := bindV_spec hb
  rw [e2] at hb ⊢
  obtain ⟨v, e3, e4⟩ := bindV_spec hb
  rw [e4] at hb ⊢
  obtain ⟨t, e5, e6⟩ := bindV_spec hb
  exact ⟨u, v, t, e1, e3, e5, e6⟩
theorem oList_spec {f : HL} {xs : OFs} {call : CallF} (hb : oList f xs call env tm h ≠ .bad) : ∃ vs, evs xs env tm = some vs ∧ oList f xs call env tm h = f h vs := by
  unfold oList at hb ⊢
  split at hb
  · rename_i vs hvs; exact ⟨vs, hvs, rfl⟩
  · exact absurd rfl hb

theorem capsArgs_rel : ∀ {cs : List (Nat × Nat)} {xs : List Value}, All2 (PRel ρ) cs xs → All2 (VRel θ ρ) (capsArgs cs) xs
  | [], _, t => by cases t; exact .nil
  | (b, o) :: cs, _, t => by
    cases t with
    | cons h t => exact .cons h (capsArgs_rel t)

/-- what the called function's own contract must say -/
def Entered (θ : Nat → Int) (P : Program) (ρ : Ro) (h : Heap) (w : World) (call : CallF) (r : Out) (s : Sem Next) : Prop :=
  ∃ (g : FuncId) (vs : List V) (xs : List Value), r = call g vs h ∧ All2 (VRel θ ρ) vs xs ∧ ∀ fn b, P.funcs[g]? = some fn → fn.body = some b → s.run P w = .ok (.enter g xs.toArray) w

theorem ef_sound (hN : NameOk P) {o : Oper} {f : OpR} {call : CallF} (hf : efF P c o = .mk f) (hg : GOk θ c.gl ρ) (hr : HRel θ ρ h w)
    (ht : ∀ t, Operand.tmp t ∈ o.op.operands → TRel θ ρ c env tm a t) (hb : f call env tm h ≠ .bad) :
    GoesN θ P ρ h w (f call env tm h) (execOp a.eval o) ∨ Entered θ P ρ h w call (f call env tm h) (execOp a.eval o) := by
  obtain ⟨dst, op, ty, ps, aft⟩ := o
  simp only at ht
  have one : ∀ {x : Operand} {u : V}, (∀ t, x = .tmp t → Operand.tmp t ∈ op.operands) → ev (opd c x) env tm = some u → VRel θ ρ u (a.eval x) :=
    fun hx hu => opd_sound hg (fun t e => ht t (hx t e)) hu
  unfold efF at hf
  simp only at hf
  cases op with
  | alloc e =>
    simp only at hf
    split at hf
    · rename_i n z hz
      injection hf with hf; subst hf
      exact .inl (GoesV.next (alloc_ok hz hr))
    · cases hf
  | box e x =>
    simp only at hf
    split at hf
    · rename_i n hn
      injection hf with hf; subst hf
      obtain ⟨u, e1, e2⟩ := o1_spec hb
      rw [e2] at hb ⊢
      exact .inl (GoesV.next (box_ok (one (fun t e => by simp [Op.operands, e]) e1) hr hb))
    · cases hf
  | buildSlice t len parts =>
    simp only at hf
    split at hf
    · rename_i e he
      split at hf
      · rename_i n m z hn hz
        rw [bsel_eq] at hf
        split at hf
        · rename_i hc
          injection hf with hf; subst hf
          simp only [band_eq, Bool.and_eq_true, nble_iff, nbeq_iff, decide_eq_true_eq] at hc
          have := buildSlice_ok (a := a) (w := w) (call := call) he hn hz hc.2.1 hc.1 hg (fun t e => ht t (by simpa [Op.operands] using e)) hr hb
          have hpar : (parts.toList.map fun x => (x.1, a.eval x.2)).toArray = (parts.map fun (x : Nat × Operand) => (x.1, a.eval x.2)) := Array.toList_inj.1 (by simp)
          rw [hpar] at this
          have hx := GoesV.next this
          generalize oBuildSlice (len * n) (replV z len) len n (pfs c parts.toList) call env tm h = r at hx ⊢
          exact .inl hx
        · cases hf
      · cases hf
    · cases hf
  | store t x y =>
    simp only at hf
    split at hf
    · rename_i n hn
      injection hf with hf; subst hf
      obtain ⟨u, v, e1, e2, e3⟩ := o2_spec hb
      rw [e3] at hb ⊢
      exact .inl (GoesU.next (store_ok hn (one (fun t e => by simp [Op.operands, e]) e1) (one (fun t e => by simp [Op.operands, e]) e2) hr hb))
    · cases hf
  | makeMap t r =>
    simp only at hf
    split at hf
    · rename_i k e hu
      split at hf
      · injection hf with hf; subst hf
        exact .inl (GoesV.next (makeMap0_ok hr))
      · rename_i x
        injection hf with hf; subst hf
        obtain ⟨u, e1, e2⟩ := o1_spec hb
        rw [e2] at hb ⊢
        exact .inl (GoesV.next (makeMap1_ok hu (one (fun t e => by simp [Op.operands, e]) e1) hr hb))
    · cases hf
  | makeSlice t l n =>
    simp only at hf
    split at hf
    · rename_i e he
      split at hf
      · rename_i s m z by' hs hz hby
        rw [bsel_eq] at hf
        split at hf
        · rename_i hc
          injection hf with hf; subst hf
          simp only [band_eq, Bool.and_eq_true, nblt_iff, nbeq_iff, decide_eq_true_eq] at hc
          obtain ⟨u, v, e1, e2, e3⟩ := o2_spec hb
          rw [e3] at hb ⊢
          exact .inl (GoesV.next (makeSlice_ok he hs hz hby hc.1 hc.2 (one (fun t e => by simp [Op.operands, e]) e1) (one (fun t e => by simp [Op.operands, e]) e2) hr hb))
        · cases hf
      · cases hf
    · cases hf
  | slice t x lo hi mx =>
    simp only at hf
    split at hf
    · rename_i e he
      split at hf
      · rename_i s hs
        rw [bsel_eq] at hf
        split at hf
        · cases hf
        · rename_i hcond
          injection hf with hf; subst hf
          unfold oSlice at hb ⊢
          split at hb
          · rename_i u l i m hu hl hi' hm
            have h0 := one (fun t e => by simp [Op.operands, e]) hu
            obtain ⟨h1, _⟩ := oopd_sound hg (fun t e => ht t (by simp [Op.operands, e])) hl
            obtain ⟨h2, e2⟩ := oopd_sound hg (fun t e => ht t (by simp [Op.operands, e])) hi'
            obtain ⟨h3, e3⟩ := oopd_sound hg (fun t e => ht t (by simp [Op.operands, e])) hm
            have hno : m.isSome = true → i.isSome = true := by
              intro hm'
              rw [e3] at hm'
              rw [e2]
              cases hi <;> simp_all
            exact .inl (GoesV.next (sliceSl_ok (elemOfSlice_spec he) hs hr h0 h1 h2 h3 hno hb))
          · exact absurd rfl hb
      · cases hf
    · cases hf
  | mapUpdate t m k x =>
    simp only at hf
    split at hf
    · rename_i kt et hu
      split at hf
      · rename_i kk hk
        injection hf with hf; subst hf
        obtain ⟨u, v, s, e1, e2, e3, e4⟩ := o3_spec hb
        rw [e4] at hb ⊢
        exact .inl (GoesU.next (mapUpd_ok hu hk (one (fun t e => by simp [Op.operands, e]) e1) (one (fun t e => by simp [Op.operands, e]) e2) (one (fun t e => by simp [Op.operands, e]) e3) hr hb))
      · cases hf
    · cases hf
  | insert t m k x =>
    simp only at hf
    split at hf
    · rename_i kt et hu
      split at hf
      · rename_i kk hk
        injection hf with hf; subst hf
        obtain ⟨u, v, s, e1, e2, e3, e4⟩ := o3_spec hb
        rw [e4] at hb ⊢
        exact .inl (GoesU.next (mapUpd_ok hu hk (one (fun t e => by simp [Op.operands, e]) e1) (one (fun t e => by simp [Op.operands, e]) e2) (one (fun t e => by simp [Op.operands, e]) e3) hr hb))
      · cases hf
    · cases hf
  | range t x =>
    simp only at hf
    split at hf
    · rename_i hu
      injection hf with hf; subst hf
      obtain ⟨u, e1, e2⟩ := o1_spec hb
      rw [e2] at hb ⊢
      exact .inl (GoesV.next (rangeS_ok hu (one (fun t e => by simp [Op.operands, e]) e1) hr hb))
    · rename_i k e hu
      injection hf with hf; subst hf
      obtain ⟨u, e1, e2⟩ := o1_spec hb
      rw [e2] at hb ⊢
      exact .inl (GoesV.next (rangeM_ok hu (one (fun t e => by simp [Op.operands, e]) e1) hr hb))
    · cases hf
  | next it s =>
    injection hf with hf; subst hf
    obtain ⟨u, e1, e2⟩ := o1_spec hb
    rw [e2] at hb ⊢
    exact .inl (GoesV.next (next_ok (one (fun t e => by simp [Op.operands, e]) e1) hr ty hb))
  | call k =>
    simp only at hf
    have eargs : (k.args.map a.eval) = (k.args.toList.map a.eval).toArray := Array.toList_inj.1 (by simp)
    split at hf
    · rename_i b hcal
      split at hf
      · rename_i g hgb
        injection hf with hf; subst hf
        obtain ⟨vs, e1, e2⟩ := oList_spec hb
        rw [e2] at hb ⊢
        have hl := opds_sound hg (fun t e => ht t (by simpa [Op.operands, Call.operands, hcal] using e)) e1
        have hex : ∀ gd, execOp a.eval ⟨dst, .call k, ty, ps, aft, gd⟩ = builtin b k.argTypes ty (k.args.map fun | .const _ => true | _ => false) (k.args.toList.map a.eval).toArray := by
          intro gd
          rw [← eargs]
          simp only [execOp, resolve, hcal]
          rfl
        rw [hex]
        clear hex eargs
        generalize (k.args.map fun | .const _ => true | _ => false) = cst
        generalize k.args.toList.map a.eval = xs at hl
        refine .inl ?_
        unfold builtinF at hgb
        split at hgb
        · cases hgb
        · rename_i t0 ht0
          split at hgb
          · -- append
            split at hgb
            · rename_i e t1 he ht1
              split at hgb
              · rename_i n d by' m z hn hd hby hz
                rw [bsel_eq] at hgb
                split at hgb
                · rename_i hc
                  injection hgb with hgb; subst hgb
                  simp only [band_eq, Bool.and_eq_true, nblt_iff, nble_iff, nbeq_iff, decide_eq_true_eq] at hc
                  obtain ⟨⟨c1, c2⟩, c3, c4⟩ := hc
                  unfold appB at hb ⊢
                  split at hb
                  · rename_i u v
                    cases hl with
                    | cons h1 hl => cases hl with
                      | cons h2 hl => cases hl with
                        | nil => exact GoesV.next (append_ok ht0 ht1 he hd c3 hn c1 hby c4 hz c2 h1 h2 hr hb)
                  · exact absurd rfl hb
                · cases hgb
              · cases hgb
            · cases hgb
          · -- copy
            split at hgb
            · rename_i e he
              split at hgb
              · rename_i n hn
                injection hgb with hgb; subst hgb
                unfold copyB at hb ⊢
                split at hb
                · rename_i u v
                  cases hl with
                  | cons h1 hl => cases hl with
                    | cons h2 hl => cases hl with
                      | nil => exact GoesV.next (copy_ok ht0 he hn h1 h2 hr hb)
                · exact absurd rfl hb
              · cases hgb
            · cases hgb
          · -- clear
            split at hgb
            · rename_i kt et hu
              injection hgb with hgb; subst hgb
              have hone : ∃ u, vs = [u] := by
                unfold clearM at hb
                split at hb
                · exact ⟨_, rfl⟩
                · exact absurd rfl hb
              obtain ⟨u, rfl⟩ := hone
              cases hl with
              | cons h1 hl => cases hl with
                | nil => exact GoesV.next (clearM_ok ht0 hu h1 hr hb)
            · rename_i e hu
              split at hgb
              · rename_i m z hz
                injection hgb with hgb; subst hgb
                have hone : ∃ u, vs = [u] := by
                  unfold clearS at hb
                  split at hb
                  · exact ⟨_, rfl⟩
                  · exact ⟨_, rfl⟩
                  · exact absurd rfl hb
                obtain ⟨u, rfl⟩ := hone
                cases hl with
                | cons h1 hl => cases hl with
                  | nil => exact GoesV.next (clearS_ok ht0 hu hz h1 hr hb)
              · cases hgb
            · cases hgb
          · cases hgb
      · cases hf
    · -- a function
      rename_i fo hcal
      split at hf
      · rename_i g
        injection hf with hf; subst hf
        unfold oCall at hb ⊢
        split at hb
        · rename_i vs e1
          have hl := opds_sound hg (fun t e => ht t (by simp only [Op.operands, Call.operands, hcal]; simpa using e)) e1
          refine .inr ⟨g, vs, k.args.toList.map a.eval, rfl, hl, fun fn b hfn hbd => ?_⟩
          simp only [execOp, resolve, hcal, Act.eval, Deferred.ofValue, Sem.run_bind, Sem.run_pure, Result.andThen_ok, invoke]
          rw [show (#[] ++ Array.map a.eval k.args ++ #[] : Array Value) = (k.args.toList.map a.eval).toArray from Array.toList_inj.1 (by simp)]
          exact run_enter hN hfn hbd _
        · exact absurd rfl hb
      · injection hf with hf; subst hf
        unfold oCallV at hb ⊢
        split at hb
        · rename_i g caps hev
          have h0 := one (fun t e => by simp [Op.operands, Call.operands, hcal, e]) hev
          obtain ⟨xs, hfo, hcaps⟩ : ∃ xs, a.eval fo = .func (.func g) #[] xs ∧ All2 (PRel ρ) caps xs.toList := h0
          split at hb
          · rename_i vs e1
            have hl := opds_sound hg (fun t e => ht t (by simp only [Op.operands, Call.operands, hcal]; simp; right; simpa using e)) e1
            refine .inr ⟨g, vs ++ capsArgs caps, k.args.toList.map a.eval ++ xs.toList, rfl, hl.append (capsArgs_rel hcaps), fun fn b hfn hbd => ?_⟩
            simp only [execOp, resolve, hcal, hfo, Deferred.ofValue, Sem.run_bind, Sem.run_pure, Result.andThen_ok, invoke]
            rw [show (#[] ++ Array.map a.eval k.args ++ xs : Array Value) = (k.args.toList.map a.eval ++ xs.toList).toArray from Array.toList_inj.1 (by simp)]
            exact run_enter hN hfn hbd _
          · exact absurd rfl hb
        · exact absurd rfl hb
    · cases hf
  | _ => cases hf
end Go.Ev
end
