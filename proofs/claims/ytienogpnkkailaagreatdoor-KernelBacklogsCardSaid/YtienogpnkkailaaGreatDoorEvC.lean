import Derived.Test.YtienogpnkkailaaGreatDoorEvB
import Derived.Laws.StructEq
import Derived.ChangeKeysEq
section
set_option autoImplicit false
namespace Go.Ev
variable {θ : Nat → Int} {P : Program}

/-- What the frame knows of a temporary. -/
def TRel (θ : Nat → Int) (ρ : Ro) (c : Cx) (env : List V) (tm : PT V) (a : Act) (t : Nat) : Prop :=
  ∀ v, ev (tmpF c t) env tm = some v → ∃ x, a.tmps[t]? = some x ∧ VRel θ ρ v x
/-- the package-level variables: memory that does not change -/
def GOk (θ : Nat → Int) (gl : Nat → Option (List V)) (ρ : Ro) : Prop := ∀ g l, gl g = some l → CRel θ ρ (.fp l) (.pointer (some ⟨g, 0, none⟩))
theorem GOk.mono {gl : Nat → Option (List V)} {ρ ρ' : Ro} (hr : ρ.le ρ') (h : GOk θ gl ρ) : GOk θ gl ρ' := fun g l hg => (h g l hg).mono hr
theorem TRel.mono {ρ ρ' : Ro} (hr : ρ.le ρ') {c : Cx} {env : List V} {tm : PT V} {a : Act} {t : Nat} (h : TRel θ ρ c env tm a t) : TRel θ ρ' c env tm a t :=
  fun v hv => let ⟨x, h1, h2⟩ := h v hv; ⟨x, h1, h2.mono hr⟩

section
variable {ρ : Ro} {c : Cx} {env : List V} {tm : PT V} {a : Act}
theorem opd_sound {x : Operand} {v : V} (hg : GOk θ c.gl ρ) (ht : ∀ t, x = .tmp t → TRel θ ρ c env tm a t) (h : ev (opd c x) env tm = some v) :
    VRel θ ρ v (a.eval x) := by
  cases x with
  | tmp t =>
    obtain ⟨y, h1, h2⟩ := ht t rfl v h
    simp only [Act.eval, Array.getD_eq_getD_getElem?, h1, Option.getD_some]
    exact h2
  | const y => exact arel_vrel (absV_rel h ρ)
  | global g =>
    change ob (c.gl g) (fun l => some (V.fp l)) = some v at h
    obtain ⟨l, h1, h2⟩ := ob_eq_some h
    injection h2 with h2; subst h2
    exact crel_vrel (hg g l h1)
  | func f =>
    change some (V.func f []) = some v at h
    injection h with h; subst h
    exact ⟨#[], rfl, .nil⟩
theorem evs_cons (x : OF) (l : OFs) : evs (.cons x l) env tm = (match ev x env tm with
    | some v => (match evs l env tm with
      | some vs => some (v :: vs)
      | none => none)
    | none => none) := by
  have e : evs (.cons x l) env tm = Option.rec (motive := fun _ => Option (List V)) none
      (fun v => Option.rec (motive := fun _ => Option (List V)) none (fun vs => some (v :: vs)) (evs l env tm)) (ev x env tm) := rfl
  rw [e]
  cases ev x env tm <;> cases evs l env tm <;> rfl
theorem opds_sound {l : List Operand} : ∀ {vs : List V}, GOk θ c.gl ρ → (∀ t, Operand.tmp t ∈ l → TRel θ ρ c env tm a t) → evs (opds c l) env tm = some vs →
    All2 (VRel θ ρ) vs (l.map a.eval) := by
  induction l with
  | nil => intro vs _ _ h; change some [] = some vs at h; injection h with h; subst h; exact .nil
  | cons x l ih =>
    intro vs hg ht h
    change evs (.cons (opd c x) (opds c l)) env tm = some vs at h
    rw [evs_cons] at h
    split at h
    · rename_i v hv
      split at h
      · rename_i us hus
        injection h with h; subst h
        exact .cons (opd_sound hg (fun t e => ht t (by rw [e]; exact List.mem_cons_self)) hv) (ih hg (fun t hm => ht t (List.mem_cons_of_mem _ hm)) hus)
      · cases h
    · cases h
end

/-! ### shapes of values -/
section
variable {ρ : Ro}
theorem vrel_int {k : IntKind} {n : Int} {x : Value} (h : VRel θ ρ (.int k n) x) : x = .int k n := h
theorem vrel_bool {b : Bool} {x : Value} (h : VRel θ ρ (.bool b) x) : x = .bool b := h
theorem vrel_ptr {b off : Nat} {x : Value} (h : VRel θ ρ (.ptr b off) x) : ∃ p, ρ b = some p ∧ x = .pointer (some ⟨p.blk, p.base + off, none⟩) := h
theorem vrel_slice {b off len : Nat} {cap : ACap} {x : Value} (h : VRel θ ρ (.slice b off len cap) x) :
    ∃ p, ρ b = some p ∧ x = .slice (some ⟨p.blk, p.base + off, none⟩) len (cap.of p) := h
theorem vrel_str {n : Nat} {s : List V} {x : Value} (h : VRel θ ρ (.str n s) x) : s.length = n ∧ (∀ u ∈ s, ByteOk θ u) ∧ x = .string (strOf θ s) := h
theorem vrel_agg {n : Nat} {cs : List V} {x : Value} (h : VRel θ ρ (.agg n cs) x) : cs.length = n ∧ ∃ xs, x = .agg xs ∧ All2 (CRel θ ρ) cs xs.toList := h
theorem strOf_size (s : List V) : (strOf θ s).size = s.length := by simp [strOf, ByteArray.size]
end

/-! ### reading operations, one by one -/
section
variable {ρ : Ro} {h : Heap} {w : World}

theorem run_loadAgg {t : TypeId} {n : Nat} {x : Value} {u v : V} (ha : isAggT P t = some true) (hs : szOf P t = some n) (hr : HRel θ ρ h w)
    (hu : VRel θ ρ u x) (hv : loadAgg n h u = some v) : ∃ y, (Instr.loadAt t x).run P w = .ok y w ∧ VRel θ ρ v y := by
  unfold loadAgg at hv
  split at hv
  · rename_i b off
    split at hv
    · rename_i c len tl hb
      split at hv
      · rename_i cs hrd
        injection hv with hv; subst hv
        obtain ⟨p, hp, rfl⟩ := vrel_ptr hu
        obtain ⟨p', xs, hp', hl, lies⟩ := lies_of_rd (hr.obj _ _ _ hb (by assumption)) hrd
        rw [hp] at hp'; injection hp' with hp'; subst hp'
        refine ⟨.agg xs.toArray, ?_, hl, xs.toArray, rfl, by simpa using lies.rel⟩
        have hrun := run_loadCells_lies (P := P) lies
        rw [hl] at hrun
        simp [Instr.loadAt, Instr.sureAddr, loadVar, run_isAgg ha, run_sizeOf hs, hrun]
      · cases hv
    · cases hv
  · rename_i l
    split at hv
    · rename_i cs hcs
      injection hv with hv; subst hv
      obtain ⟨q, o, c, rfl, hq, hz⟩ := crel_fp hu
      obtain ⟨xs, hl, lies⟩ := lies_of_take hr hq hz hcs
      refine ⟨.agg xs.toArray, ?_, hl, xs.toArray, rfl, by simpa using lies.rel⟩
      have hrun := run_loadCells_lies (P := P) lies
      rw [hl] at hrun
      simp [Instr.loadAt, Instr.sureAddr, loadVar, run_isAgg ha, run_sizeOf hs, hrun]
    · cases hv
  · cases hv
theorem run_loadOne {t : TypeId} {x : Value} {u v : V} (ha : isAggT P t = some false) (hr : HRel θ ρ h w)
    (hu : VRel θ ρ u x) (hv : loadOne h u = some v) : ∃ y, (Instr.loadAt t x).run P w = .ok y w ∧ VRel θ ρ v y := by
  unfold loadOne at hv
  split at hv
  · rename_i b off
    split at hv
    · rename_i c len tl hb
      rw [nth_eq] at hv
      obtain ⟨p, hp, rfl⟩ := vrel_ptr hu
      obtain ⟨p', hp', hl, arr, e, fr, ha', hf, hsz, hcell, _⟩ := hr.obj _ _ _ hb (by assumption)
      rw [hp] at hp'; injection hp' with hp'; subst hp'
      obtain ⟨y, hy, hrel⟩ := hcell _ _ hv
      refine ⟨y, ?_, crel_vrel hrel⟩
      have hc := cell_of ha' (p.base + off)
      rw [hy] at hc
      simp [Instr.loadAt, Instr.sureAddr, loadVar, run_isAgg ha, hc]
    · cases hv
  · rename_i l
    rw [nth_eq] at hv
    obtain ⟨q, o, c, rfl, hq, hz⟩ := crel_fp hu
    obtain ⟨⟨e, fr, hc⟩, _⟩ := hr.frz q c hq
    obtain ⟨y, hy, hy2⟩ := zrels_get hz hv
    refine ⟨y, ?_, crel_vrel (zrel_crel hy2)⟩
    have hc := cell_of hc (o + 0)
    rw [hy] at hc
    simp only [Nat.add_zero] at hc
    simp [Instr.loadAt, Instr.sureAddr, loadVar, run_isAgg ha, hc]
  · cases hv

theorem run_tNil {x : Value} {u v : V} (hu : VRel θ ρ u x) (hv : tNil h u = some v) : v = u ∧ (∃ a, x = .pointer (some a)) ∨ v = u ∧ (∃ f xs, x = .func (.func f) #[] xs) := by
  unfold tNil at hv
  split at hv
  · injection hv with hv; subst hv
    obtain ⟨p, hp, rfl⟩ := vrel_ptr hu
    exact .inl ⟨rfl, _, rfl⟩
  · injection hv with hv; subst hv
    obtain ⟨q, o, c, rfl, _⟩ := crel_fp hu
    exact .inl ⟨rfl, _, rfl⟩
  · injection hv with hv; subst hv
    obtain ⟨xs, rfl, _⟩ := hu
    exact .inr ⟨rfl, _, _, rfl⟩
  · cases hv

theorem run_arrayAt {t : TypeId} {n : Nat} {e : TypeId} {x : Value} {u v : V} (hu' : P.underlying t = some (.array n e)) (hu : VRel θ ρ u x) (hv : tArrPtr n h u = some v) :
    ∃ y, (Instr.arrayAt t x).run P w = .ok y w ∧ VRel θ ρ v y := by
  unfold tArrPtr at hv
  split at hv
  · rename_i b off len cap
    obtain ⟨h1, h2⟩ := bsel_bad_opt hv
    rw [nble_iff, decide_eq_true_iff] at h1
    injection h2 with h2; subst h2
    obtain ⟨p, hp, rfl⟩ := vrel_slice hu
    refine ⟨.pointer (some ⟨p.blk, p.base + off, none⟩), ?_, p, hp, rfl⟩
    simp [Instr.arrayAt, run_underlying hu', Nat.not_lt.2 h1]
  · cases hv

theorem fieldOf_spec {t : TypeId} {i : Nat} {f : Field} (hf : fieldOf P t i = some f) : ∃ fs, P.underlying t = some (.struct fs) ∧ fs[i]? = some f := by
  unfold fieldOf at hf
  split at hf
  · rename_i fs hu; exact ⟨fs, hu, hf⟩
  · cases hf
theorem run_fieldAt {t : TypeId} {i n : Nat} {f : Field} {x : Value} {u v : V} (hf : fieldOf P t i = some f) (hn : szOf P f.type = some n) (h0 : n ≠ 0)
    (hu : VRel θ ρ u x) (hv : tFieldAddr f.offset h u = some v) : ∃ y, (Instr.fieldAt t x i).run P w = .ok y w ∧ VRel θ ρ v y := by
  unfold tFieldAddr at hv
  split at hv
  · rename_i b off
    injection hv with hv; subst hv
    obtain ⟨p, hp, rfl⟩ := vrel_ptr hu
    obtain ⟨fs, hus, hfi⟩ := fieldOf_spec hf
    refine ⟨.pointer (some ⟨p.blk, p.base + (off + f.offset), none⟩), ?_, p, hp, rfl⟩
    simp [Instr.fieldAt, run_underlying hus, hfi, Instr.sureAddr, fieldPlace, run_sizeOf hn, h0, addr_add, Nat.add_assoc]
  · rename_i l
    injection hv with hv; subst hv
    obtain ⟨q, o, c, rfl, hq, hz⟩ := crel_fp hu
    obtain ⟨fs, hus, hfi⟩ := fieldOf_spec hf
    refine ⟨.pointer (some ⟨q, o + f.offset, none⟩), ?_, crel_vrel (crel_fp_mk hq (by rw [dropV_eq]; exact zrels_drop f.offset hz))⟩
    simp [Instr.fieldAt, run_underlying hus, hfi, Instr.sureAddr, fieldPlace, run_sizeOf hn, h0, addr_add]
  · cases hv

theorem run_part {t : TypeId} {ag : Bool} {n len off : Nat} {cs : List V} {v : V} {xs : Array Value} (ha : isAggT P t = some ag) (hn : szOf P t = some n)
    (hl : cs.length = len) (ht : All2 (CRel θ ρ) cs xs.toList) (hv : partA ag n len cs off = some v) : ∃ y, (part t xs off).run P w = .ok y w ∧ ARel θ ρ v y := by
  unfold partA at hv
  cases ag with
  | true =>
    simp only [bsel_true] at hv
    split at hv
    · rename_i l hrd
      injection hv with hv; subst hv
      obtain ⟨h1, rfl⟩ := rd_eq hl hrd
      have hx : xs.size = len := by rw [← hl, ht.length]; simp
      refine ⟨.agg (xs.extract off (off + n)), ?_, by simp; omega, _, rfl, ?_⟩
      · simp [part, run_isAgg ha, run_sizeOf hn]
      · have := (ht.drop off).take n
        rw [Array.toList_extract]
        simpa [List.extract, show off + n - off = n by omega] using this
    · cases hv
  | false =>
    simp only [bsel_false, nth_eq] at hv
    obtain ⟨y, hy, hrel⟩ := ht.get hv
    refine ⟨y, ?_, crel_arel hrel⟩
    rw [Array.getElem?_toList] at hy
    simp [part, run_isAgg ha, hy]

theorem run_field {t : TypeId} {i n : Nat} {ag : Bool} {f : Field} {x : Value} {u v : V} (hf : fieldOf P t i = some f) (ha : isAggT P f.type = some ag) (hn : szOf P f.type = some n)
    (hu : VRel θ ρ u x) (hv : tField ag n f.offset h u = some v) : ∃ y, (Instr.field t x i).run P w = .ok y w ∧ VRel θ ρ v y := by
  unfold tField at hv
  split at hv
  · rename_i len cs
    obtain ⟨hl, xs, rfl, ht⟩ := vrel_agg hu
    obtain ⟨fs, hus, hfi⟩ := fieldOf_spec hf
    obtain ⟨y, hy, hrel⟩ := run_part (w := w) ha hn hl ht hv
    refine ⟨y, ?_, arel_vrel hrel⟩
    simp [Instr.field, run_underlying hus, hfi, asAgg, hy]
  · cases hv

theorem natLit_spec {v : V} {n : Nat} (h : natLit v = some n) : ∃ k, v = .int k (n : Int) := by
  unfold natLit at h
  split at h
  · rename_i k m
    split at h
    · injection h with h; subst h; exact ⟨k, rfl⟩
    · cases h
  · cases h

theorem run_idxArr {t e : TypeId} {n s : Nat} {x y : Value} {u i v : V} (hus : P.underlying t = some (.array n e)) (hn : szOf P e = some s)
    (hu : VRel θ ρ u x) (hi : VRel θ ρ i y) (hv : tIdxArr n s h u i = some v) : ∃ z, (Instr.indexAt t x y).run P w = .ok z w ∧ VRel θ ρ v z := by
  unfold tIdxArr at hv
  split at hv
  · rename_i b off
    split at hv
    · rename_i j hj
      obtain ⟨k, rfl⟩ := natLit_spec hj
      obtain ⟨h1, h2⟩ := bsel_bad_opt hv
      rw [nblt_iff, decide_eq_true_iff] at h1
      injection h2 with h2; subst h2
      obtain ⟨p, hp, rfl⟩ := vrel_ptr hu
      have := vrel_int hi; subst this
      refine ⟨.pointer (some ⟨p.blk, p.base + (off + j * s), none⟩), ?_, p, hp, rfl⟩
      have hc : (0 : Int) ≤ (j : Int) ∧ (j : Int) < (n : Int) := by omega
      simp only [Instr.indexAt, asIntOf, Sem.run_bind, Sem.run_pure, Result.andThen_ok, run_underlying hus, Instr.sureAddr, if_pos hc, run_sizeOf hn, addr_add, Nat.add_assoc, Int.toNat_natCast]
    · cases hv
  · rename_i l
    split at hv
    · rename_i j hj
      obtain ⟨k, rfl⟩ := natLit_spec hj
      obtain ⟨h1, h2⟩ := bsel_bad_opt hv
      rw [nblt_iff, decide_eq_true_iff] at h1
      injection h2 with h2; subst h2
      obtain ⟨q, o, c, rfl, hq, hz⟩ := crel_fp hu
      have := vrel_int hi; subst this
      refine ⟨.pointer (some ⟨q, o + j * s, none⟩), ?_, crel_vrel (crel_fp_mk hq (by rw [dropV_eq]; exact zrels_drop (j * s) hz))⟩
      have hc : (0 : Int) ≤ (j : Int) ∧ (j : Int) < (n : Int) := by omega
      simp only [Instr.indexAt, asIntOf, Sem.run_bind, Sem.run_pure, Result.andThen_ok, run_underlying hus, Instr.sureAddr, if_pos hc, run_sizeOf hn, addr_add, Int.toNat_natCast]
    · cases hv
  · cases hv
theorem run_idxSl {t e : TypeId} {s : Nat} {x y : Value} {u i v : V} (hus : P.underlying t = some (.slice e)) (hn : szOf P e = some s)
    (hu : VRel θ ρ u x) (hi : VRel θ ρ i y) (hv : tIdxSl s h u i = some v) : ∃ z, (Instr.indexAt t x y).run P w = .ok z w ∧ VRel θ ρ v z := by
  unfold tIdxSl at hv
  split at hv
  · rename_i b off n cap
    split at hv
    · rename_i j hj
      obtain ⟨k, rfl⟩ := natLit_spec hj
      obtain ⟨h1, h2⟩ := bsel_bad_opt hv
      rw [nblt_iff, decide_eq_true_iff] at h1
      injection h2 with h2; subst h2
      obtain ⟨p, hp, rfl⟩ := vrel_slice hu
      have := vrel_int hi; subst this
      refine ⟨.pointer (some ⟨p.blk, p.base + (off + j * s), none⟩), ?_, p, hp, rfl⟩
      have hc : (0 : Int) ≤ (j : Int) ∧ (j : Int) < (n : Int) := by omega
      simp only [Instr.indexAt, asIntOf, Sem.run_bind, Sem.run_pure, Result.andThen_ok, run_underlying hus, if_pos hc, run_sizeOf hn, addr_add, Nat.add_assoc, Int.toNat_natCast]
    · cases hv
  · rename_i l n
    split at hv
    · rename_i j hj
      obtain ⟨k, rfl⟩ := natLit_spec hj
      obtain ⟨h1, h2⟩ := bsel_bad_opt hv
      rw [nblt_iff, decide_eq_true_iff] at h1
      injection h2 with h2; subst h2
      obtain ⟨q, o, cap, c, rfl, _, hq, hz⟩ := crel_fz hu
      have := vrel_int hi; subst this
      refine ⟨.pointer (some ⟨q, o + j * s, none⟩), ?_, crel_vrel (crel_fp_mk hq (by rw [dropV_eq]; exact zrels_drop (j * s) hz))⟩
      have hc : (0 : Int) ≤ (j : Int) ∧ (j : Int) < (n : Int) := by omega
      simp only [Instr.indexAt, asIntOf, Sem.run_bind, Sem.run_pure, Result.andThen_ok, run_underlying hus, if_pos hc, run_sizeOf hn, addr_add, Int.toNat_natCast]
    · cases hv
  · rename_i len idx v0
    split at hv
    · rename_i k e hk
      obtain ⟨h1, h2⟩ := bsel_bad_opt hv
      injection h2 with h2; subst h2
      simp only [band_eq, Bool.and_eq_true, nbeq_iff, decide_eq_true_eq, idxOk] at h1
      obtain ⟨hs1, he, hlt, hlo⟩ := h1
      have hu0 : ZRel θ ρ.fz (.ord len idx v0) x := hu
      simp only [ZRel] at hu0
      obtain ⟨hlen, hidx, hx⟩ := hu0
      obtain ⟨hek, rfl⟩ := toS_rel hk hi
      have e1 := seEq_ok hek hidx (isTrue_spec he)
      have e2 := seLt_ok hidx hlen (isTrue_spec hlt)
      have e3 := seLo_ok hidx
      have e4 : 0 ≤ idx.eval θ := by
        rw [intLt_eq] at hlo
        simp at hlo
        omega
      have e1 : e.eval θ = idx.eval θ := by simpa using e1
      have e2 : idx.eval θ < len.eval θ := by simpa using e2
      rcases hx with ⟨h0, _⟩ | ⟨q, o, m, cap, c, rfl, hm, hq, hc⟩
      · omega
      · obtain ⟨y, hy, hz⟩ := hc e4 e2
        refine ⟨.pointer (some ⟨q, o + (idx.eval θ).toNat, none⟩), ?_, crel_vrel (crel_fp_mk hq (by simp only [ZRels]; exact ⟨⟨y, hy, hz⟩, trivial⟩))⟩
        subst hs1
        have hc : (0 : Int) ≤ idx.eval θ ∧ idx.eval θ < (m : Int) := by omega
        simp only [Instr.indexAt, asIntOf, Sem.run_bind, Sem.run_pure, Result.andThen_ok, run_underlying hus, e1, if_pos hc, run_sizeOf hn, addr_add, Nat.mul_one]
    · cases hv
  · cases hv
theorem run_idxAgg {t e : TypeId} {n s : Nat} {ag : Bool} {x y : Value} {u i v : V} (hus : P.underlying t = some (.array n e)) (ha : isAggT P e = some ag) (hn : szOf P e = some s)
    (hu : VRel θ ρ u x) (hi : VRel θ ρ i y) (hv : tIdxAgg ag n s h u i = some v) : ∃ z, (Instr.index t x y).run P w = .ok z w ∧ VRel θ ρ v z := by
  unfold tIdxAgg at hv
  split at hv
  · rename_i len cs
    split at hv
    · rename_i j hj
      obtain ⟨k, rfl⟩ := natLit_spec hj
      obtain ⟨h1, h2⟩ := bsel_bad_opt hv
      rw [nblt_iff, decide_eq_true_iff] at h1
      obtain ⟨hl, xs, rfl, ht⟩ := vrel_agg hu
      have := vrel_int hi; subst this
      obtain ⟨z, hz, hrel⟩ := run_part (w := w) ha hn hl ht h2
      refine ⟨z, ?_, arel_vrel hrel⟩
      have hc : (0 : Int) ≤ (j : Int) ∧ (j : Int) < (n : Int) := by omega
      simp only [Instr.index, asIntOf, Sem.run_bind, Sem.run_pure, Result.andThen_ok, run_underlying hus, if_pos hc, run_sizeOf hn, Int.toNat_natCast, hz]
    · cases hv
  · cases hv
theorem u8_of_inRange {n : Int} (h : inRange .u8 n = true) : ((UInt8.ofNat n.toNat).toNat : Int) = n ∧ 0 ≤ n ∧ n < 256 := by
  cases n with
  | ofNat m =>
    change Nat.ble m (posMax .u8) = true at h
    have h' : m ≤ 255 := Nat.le_of_ble_eq_true h
    rw [Int.ofNat_eq_natCast]
    refine ⟨?_, by omega, by omega⟩
    simp only [Int.toNat_natCast, UInt8.toNat_ofNat']
    omega
  | negSucc m => cases h
theorem bytes_get (b : ByteArray) (j : Nat) : b[j]? = b.data[j]? := by
  by_cases h : j < b.size
  · rw [getElem?_pos b j h, getElem?_pos b.data j h]; rfl
  · rw [getElem?_neg b j h, getElem?_neg b.data j h]
theorem strOf_get (s : List V) (j : Nat) : (strOf θ s).data[j]? = (s[j]?).map (byteV θ) := by
  simp [strOf]
theorem run_idxStr {t : TypeId} {x y : Value} {u i v : V} (hus : P.underlying t = some .string)
    (hu : VRel θ ρ u x) (hi : VRel θ ρ i y) (hv : tIdxStr h u i = some v) : ∃ z, (Instr.index t x y).run P w = .ok z w ∧ VRel θ ρ v z := by
  unfold tIdxStr at hv
  split at hv
  · rename_i m s
    split at hv
    · rename_i j hj
      obtain ⟨k, rfl⟩ := natLit_spec hj
      obtain ⟨h1, h2⟩ := bsel_bad_opt hv
      rw [nblt_iff, decide_eq_true_iff] at h1
      rw [nth_eq] at h2
      split at h2
      · rename_i n hn
        obtain ⟨h3, h4⟩ := bsel_bad_opt h2
        injection h4 with h4; subst h4
        obtain ⟨hl, _, rfl⟩ := vrel_str hu
        have := vrel_int hi; subst this
        obtain ⟨hb, _, _⟩ := u8_of_inRange h3
        refine ⟨.int .u8 n, ?_, rfl⟩
        have hg : (strOf θ s)[((j : Int)).toNat]? = some (UInt8.ofNat n.toNat) := by
          have := strOf_get (θ := θ) s j
          rw [hn] at this
          rw [bytes_get, Int.toNat_natCast, this]; rfl
        have h0 : (0 : Int) ≤ (j : Int) := by omega
        simp only [Instr.index, asIntOf, Sem.run_bind, Sem.run_pure, Result.andThen_ok, run_underlying hus, h0, if_true, hg, hb]
      · rename_i e hn
        injection h2 with h2; subst h2
        obtain ⟨hl, hb, rfl⟩ := vrel_str hu
        have := vrel_int hi; subst this
        have hbe := hb _ (List.mem_of_getElem? hn)
        obtain ⟨he, b0, b1⟩ : e.Ok θ ∧ 0 ≤ e.eval θ ∧ e.eval θ < 256 := hbe
        refine ⟨.int .u8 (e.eval θ), ?_, he, rfl⟩
        have hg : (strOf θ s)[((j : Int)).toNat]? = some (UInt8.ofNat (e.eval θ).toNat) := by
          have := strOf_get (θ := θ) s j
          rw [hn] at this
          rw [bytes_get, Int.toNat_natCast, this]; rfl
        have h0 : (0 : Int) ≤ (j : Int) := by omega
        have hb2 : ((UInt8.ofNat (e.eval θ).toNat).toNat : Int) = e.eval θ := by
          simp only [UInt8.toNat_ofNat']; omega
        simp only [Instr.index, asIntOf, Sem.run_bind, Sem.run_pure, Result.andThen_ok, run_underlying hus, h0, if_true, hg, hb2]
      · cases h2
    · cases hv
  · cases hv

theorem run_extract {x : Value} {i : Nat} {u v : V} (hu : VRel θ ρ u x) (hv : tExtract i h u = some v) : ∃ z, (Instr.extract x i).run P w = .ok z w ∧ VRel θ ρ v z := by
  unfold tExtract at hv
  split at hv
  · rename_i l
    obtain ⟨xs, rfl, ht⟩ := hu
    rw [nth_eq] at hv
    obtain ⟨z, hz, hrel⟩ := ht.get hv
    rw [Array.getElem?_toList] at hz
    exact ⟨z, by simp [Instr.extract, hz], arel_vrel hrel⟩
  · cases hv
end
end Go.Ev
end

section
set_option autoImplicit false
namespace Go.Ev
variable {θ : Nat → Int} {P : Program} {ρ : Ro} {h : Heap} {w : World}

/-! ### strings -/
/-- the number of a byte -/
def byteN (θ : Nat → Int) : V → Int
  | .int _ n => n
  | .sym _ e => e.eval θ
  | _ => 0
theorem byteN_ok {u : V} (h : ByteOk θ u) : byteV θ u = UInt8.ofNat (byteN θ u).toNat ∧ 0 ≤ byteN θ u ∧ byteN θ u < 256 := by
  cases u <;> first
    | exact ⟨rfl, h.1, h.2⟩
    | exact ⟨rfl, h.2.1, h.2.2⟩
    | exact h.elim
theorem byteN_eq {u v : V} (hu : ByteOk θ u) (hv : ByteOk θ v) : (byteV θ u == byteV θ v) = decide (byteN θ u = byteN θ v) := by
  obtain ⟨e1, h1, h2⟩ := byteN_ok hu
  obtain ⟨e2, h3, h4⟩ := byteN_ok hv
  rw [e1, e2, Bool.eq_iff_iff, beq_iff_eq, decide_eq_true_iff]
  constructor
  · intro e
    have := congrArg UInt8.toNat e
    simp only [UInt8.toNat_ofNat'] at this
    omega
  · intro e; rw [e]
theorem byteN_lt {u v : V} (hu : ByteOk θ u) (hv : ByteOk θ v) : decide (byteV θ u < byteV θ v) = decide (byteN θ u < byteN θ v) := by
  obtain ⟨e1, h1, h2⟩ := byteN_ok hu
  obtain ⟨e2, h3, h4⟩ := byteN_ok hv
  rw [e1, e2, Bool.eq_iff_iff, decide_eq_true_iff, decide_eq_true_iff]
  simp only [UInt8.lt_iff_toNat_lt, UInt8.toNat_ofNat'] at *
  omega
theorem evalc (m : Int) : (SE.mk m []).eval θ = m := by simp [SE.eval, evT]
theorem byteEq_ok {u v : V} {r : Bool} (hu : ByteOk θ u) (hv : ByteOk θ v) (h : byteEq u v = some r) : (byteV θ u == byteV θ v) = r := by
  rw [byteN_eq hu hv]
  cases u <;> simp only [byteEq, reduceCtorEq] at h <;> cases v <;> simp only [reduceCtorEq] at h
  · injection h with h; subst h
    rw [intEq_eq]; rfl
  · have := seEq_ok (θ := θ) (a := .mk _ []) okT_nil hv.1 h
    rw [evalc] at this; exact this
  · have := seEq_ok (θ := θ) (b := .mk _ []) hu.1 okT_nil h
    rw [evalc] at this; exact this
  · exact seEq_ok hu.1 hv.1 h
theorem byteLt_ok {u v : V} {r : Bool} (hu : ByteOk θ u) (hv : ByteOk θ v) (h : byteLt u v = some r) : decide (byteV θ u < byteV θ v) = r := by
  rw [byteN_lt hu hv]
  cases u <;> simp only [byteLt, reduceCtorEq] at h <;> cases v <;> simp only [reduceCtorEq] at h
  · injection h with h; subst h
    rw [intLt_eq]; rfl
  · have := seLt_ok (θ := θ) (a := .mk _ []) okT_nil hv.1 h
    rw [evalc] at this; exact this
  · have := seLt_ok (θ := θ) (b := .mk _ []) hu.1 okT_nil h
    rw [evalc] at this; exact this
  · exact seLt_ok hu.1 hv.1 h
theorem byteV_eq {u v : V} (hu : ByteOk θ u) (hv : ByteOk θ v) {k j : IntKind} {a b : Int} (eu : u = .int k a) (ev : v = .int j b) : (byteV θ u == byteV θ v) = intEq a b := by
  subst eu; subst ev
  rw [byteN_eq hu hv, intEq_eq]; rfl
theorem strEq_sound : ∀ {x y : List V} {r : Bool}, (∀ u ∈ x, ByteOk θ u) → (∀ u ∈ y, ByteOk θ u) → strEq x y = some r → (x.map (byteV θ) == y.map (byteV θ)) = r := by
  intro x
  induction x with
  | nil => intro y r _ _ h; cases y with
    | nil => simp [strEq] at h; simp [h]
    | cons b y => simp [strEq] at h; subst h; rfl
  | cons a x ih => intro y r hx hy h; cases y with
    | nil => simp [strEq] at h; subst h; rfl
    | cons b y =>
      have hx' := fun u hu => hx u (List.mem_cons_of_mem _ hu)
      have hy' := fun u hu => hy u (List.mem_cons_of_mem _ hu)
      simp only [strEq] at h
      show ((byteV θ a == byteV θ b) && (x.map (byteV θ) == y.map (byteV θ))) = r
      split at h
      · rename_i he; rw [byteEq_ok (hx a List.mem_cons_self) (hy b List.mem_cons_self) he, ih hx' hy' h]; rfl
      · rename_i he; rw [byteEq_ok (hx a List.mem_cons_self) (hy b List.mem_cons_self) he]; exact Option.some.inj h
      · cases h
theorem strLt_sound : ∀ {x y : List V} {r : Bool}, (∀ u ∈ x, ByteOk θ u) → (∀ u ∈ y, ByteOk θ u) → strLt x y = some r → Op.bytesLess (x.map (byteV θ)) (y.map (byteV θ)) = r := by
  intro x
  induction x with
  | nil => intro y r _ _ h; cases y with
    | nil => simp [strLt] at h; simp [Op.bytesLess, h]
    | cons b y => simp [strLt] at h; subst h; rfl
  | cons a x ih => intro y r hx hy h; cases y with
    | nil => simp [strLt] at h; subst h; rfl
    | cons b y =>
      have hx' := fun u hu => hx u (List.mem_cons_of_mem _ hu)
      have hy' := fun u hu => hy u (List.mem_cons_of_mem _ hu)
      simp only [strLt] at h
      show (decide (byteV θ a < byteV θ b) || ((byteV θ a == byteV θ b) && Op.bytesLess (x.map (byteV θ)) (y.map (byteV θ)))) = r
      split at h
      · rename_i he; rw [byteLt_ok (hx a List.mem_cons_self) (hy b List.mem_cons_self) he]; exact Option.some.inj h
      · rename_i he
        rw [byteLt_ok (hx a List.mem_cons_self) (hy b List.mem_cons_self) he]
        split at h
        · rename_i he2; rw [byteEq_ok (hx a List.mem_cons_self) (hy b List.mem_cons_self) he2, ih hx' hy' h]; rfl
        · rename_i he2; rw [byteEq_ok (hx a List.mem_cons_self) (hy b List.mem_cons_self) he2]; exact Option.some.inj h
        · cases h
      · cases h
theorem strOf_toList (s : List V) : (strOf θ s).toList = s.map (byteV θ) := by
  rw [ByteArray.toList_eq]; simp [strOf]
theorem strEqN_sound {n m : Nat} {x y : List V} {r : Bool} (hn : x.length = n) (hm : y.length = m) (hx : ∀ u ∈ x, ByteOk θ u) (hy : ∀ u ∈ y, ByteOk θ u)
    (h : bsel (Nat.beq n m) (strEq x y) (some false) = some r) : (x.map (byteV θ) == y.map (byteV θ)) = r := by
  rw [bsel_eq] at h
  split at h
  · exact strEq_sound hx hy h
  · rename_i hne
    injection h with h; subst h
    rw [nbeq_iff, decide_eq_true_iff] at hne
    rw [beq_eq_false_iff_ne]
    intro e
    have := congrArg List.length e
    simp at this; omega

theorem obool_spec {neg : Bool} {r : Option Bool} {v : V} (h : obool neg r = some v) : ∃ b, r = some b ∧ v = .bool (if neg then !b else b) := by
  obtain ⟨b, hb, h⟩ := ob_eq_some h
  injection h with h
  exact ⟨b, hb, by rw [← h]; cases neg <;> rfl⟩

/-! ### two operands -/
/-- What a binary operation must come to. -/
def BinOk (θ : Nat → Int) (P : Program) (ρ : Ro) (w : World) (op : BinOp) (t : TypeId) (f : V → V → Option V) : Prop :=
  ∀ u u' v x x' (ox oy : Operand), VRel θ ρ u x → VRel θ ρ u' x' → f u u' = some v →
    ∃ y, (do eqGuard op t ox oy x x'; binOp op t x x' : Sem Value).run P w = .ok y w ∧ VRel θ ρ v y

theorem guard_int (op : BinOp) (t : TypeId) (x y : Operand) (k j : IntKind) (a b : Int) : (eqGuard op t x y (.int k a) (.int j b)).run P w = .ok () w := by
  cases op <;> simp [eqGuard]
theorem guard_str (op : BinOp) (t : TypeId) (x y : Operand) (a b : ByteArray) : (eqGuard op t x y (.string a) (.string b)).run P w = .ok () w := by
  cases op <;> simp [eqGuard]

theorem intF_ok {op : BinOp} {t : TypeId} {g : G2} {o : V → V → Option V}
    (hg : ∀ (k : IntKind) (a b : Int) (v : V), g k a b = some v → ∃ y, (binOp op t (.int k a) (.int k b)).run P w = .ok y w ∧ VRel θ ρ v y)
    (ho : BinOk θ P ρ w op t o) : BinOk θ P ρ w op t (intF g o) := by
  intro u u' v x x' ox oy hu hu' hv
  cases u with
  | int k a =>
    cases u' with
    | int j b =>
      have e1 := vrel_int hu; subst e1
      have e2 := vrel_int hu'; subst e2
      change bsel (kindEq k j) (g k a b) none = some v at hv
      obtain ⟨h1, h2⟩ := bsel_bad_opt hv
      rw [kindEq_iff, decide_eq_true_iff] at h1
      subst h1
      obtain ⟨y, hy, hr⟩ := hg k a b v h2
      exact ⟨y, by simp only [Sem.run_bind, guard_int, Result.andThen_ok, hy], hr⟩
    | _ => cases hv
  | _ => exact ho _ _ _ _ _ ox oy hu hu' hv
theorem noF_ok {op : BinOp} {t : TypeId} : BinOk θ P ρ w op t noF := fun _ _ _ _ _ _ _ _ _ h => by cases h

theorem orF_ok {op : BinOp} {t : TypeId} {f g : V → V → Option V} (hf : BinOk θ P ρ w op t f) (hg : BinOk θ P ρ w op t g) : BinOk θ P ρ w op t (orF f g) := by
  intro u u' v x x' ox oy hu hu' hv
  unfold orF at hv
  split at hv
  · rename_i v' hv'
    injection hv with hv; subst hv
    exact hf _ _ _ _ _ ox oy hu hu' hv'
  · exact hg _ _ _ _ _ ox oy hu hu' hv
theorem symF_ok {op : BinOp} {t : TypeId} {g : S2}
    (hg : ∀ (k : IntKind) (a b : SE) (v : V), a.Ok θ → b.Ok θ → g k a b = some v → ∃ y, (binOp op t (.int k (a.eval θ)) (.int k (b.eval θ))).run P w = .ok y w ∧ VRel θ ρ v y) :
    BinOk θ P ρ w op t (symF g) := by
  intro u u' v x x' ox oy hu hu' hv
  unfold symF at hv
  split at hv
  · rename_i k a j b h1 h2
    obtain ⟨ha, rfl⟩ := toS_rel h1 hu
    obtain ⟨hb, rfl⟩ := toS_rel h2 hu'
    obtain ⟨h3, h4⟩ := bsel_bad_opt hv
    rw [kindEq_iff, decide_eq_true_iff] at h3
    subst h3
    obtain ⟨y, hy, hr⟩ := hg k a b v ha hb h4
    exact ⟨y, by simp only [Sem.run_bind, guard_int, Result.andThen_ok, hy], hr⟩
  · cases hv
theorem ivF_ok {op : BinOp} {t : TypeId} {g : I2}
    (hg : ∀ (k : IntKind) (a b c d m n : Int) (v : V), a ≤ m → m ≤ b → c ≤ n → n ≤ d → g k a b c d = some v → ∃ y, (binOp op t (.int k m) (.int k n)).run P w = .ok y w ∧ VRel θ ρ v y) :
    BinOk θ P ρ w op t (ivF g) := by
  intro u u' v x x' ox oy hu hu' hv
  unfold ivF at hv
  split at hv
  · rename_i p h1
    split at hv
    · rename_i q h2
      obtain ⟨k, a, b⟩ := p
      obtain ⟨j, c, d⟩ := q
      obtain ⟨m, m1, m2, rfl⟩ := toIv_rel h1 hu
      obtain ⟨n, n1, n2, rfl⟩ := toIv_rel h2 hu'
      obtain ⟨h3, h4⟩ := bsel_bad_opt hv
      rw [kindEq_iff, decide_eq_true_iff] at h3
      have h3 : k = j := h3
      subst h3
      obtain ⟨y, hy, hr⟩ := hg k a b c d m n v m1 m2 n1 n2 h4
      exact ⟨y, by simp only [Sem.run_bind, guard_int, Result.andThen_ok, hy], hr⟩
    · cases hv
  · cases hv
theorem vrel_int_mk (k : IntKind) (n : Int) : VRel θ ρ (.int k n) (.int k n) := rfl
theorem vrel_bool_mk (b : Bool) : VRel θ ρ (.bool b) (.bool b) := rfl

theorem addF_ok {t : TypeId} : BinOk θ P ρ w .add t addF := by
  intro u u' v x x' ox oy hu hu' hv
  cases u <;> simp only [addF, reduceCtorEq] at hv
  rename_i n s
  cases u' <;> simp only [reduceCtorEq] at hv
  rename_i m r
  obtain ⟨h1, h2⟩ := bsel_bad_opt hv
  injection h2 with h2; subst h2
  obtain ⟨hn, hb, rfl⟩ := vrel_str hu
  obtain ⟨hm, hb', rfl⟩ := vrel_str hu'
  rw [nble_iff, decide_eq_true_iff] at h1
  refine ⟨.string (strOf θ s ++ strOf θ r), ?_, ?_⟩
  · have hlt : ¬ (((strOf θ s).size + (strOf θ r).size : Nat) : Int) > IntKind.i64.max := by
      rw [strOf_size, strOf_size, hn, hm]; simp [IntKind.max, IntKind.signed, IntKind.bits]; omega
    simp only [Sem.run_bind, guard_str, Result.andThen_ok, binOp, Op.stringOp]
    rw [if_neg hlt]; rfl
  · refine ⟨by rw [appV_eq]; simp [hn, hm], ?_, ?_⟩
    · intro u hu; rw [appV_eq, List.mem_append] at hu
      rcases hu with hu | hu
      · exact hb u hu
      · exact hb' u hu
    · rw [appV_eq]
      congr 1
      have : ∀ x y : ByteArray, x.data.toList = y.data.toList → x = y := fun x y e => by
        cases x; cases y; congr 1; exact Array.ext' e
      apply this
      simp [strOf]
theorem strF_ok {op : BinOp} {t : TypeId} {g : List V → List V → Option V}
    (hg : ∀ (x y : List V) (v : V), (∀ u ∈ x, ByteOk θ u) → (∀ u ∈ y, ByteOk θ u) → g x y = some v →
      ∃ z, (binOp op t (.string (strOf θ x)) (.string (strOf θ y))).run P w = .ok z w ∧ VRel θ ρ v z) : BinOk θ P ρ w op t (strF g) := by
  intro u u' v x x' ox oy hu hu' hv
  cases u <;> simp only [strF, reduceCtorEq] at hv
  cases u' <;> simp only [reduceCtorEq] at hv
  obtain ⟨hn, hb, rfl⟩ := vrel_str hu
  obtain ⟨hm, hb', rfl⟩ := vrel_str hu'
  obtain ⟨z, hz, hr⟩ := hg _ _ _ hb hb' hv
  exact ⟨z, by simp only [Sem.run_bind, guard_str, Result.andThen_ok, hz], hr⟩

theorem shiftF_ok {op : BinOp} {t : TypeId} {g : G2}
    (hg : ∀ (k j : IntKind) (a b : Int) (v : V), g k a b = some v → ∃ y, (binOp op t (.int k a) (.int j b)).run P w = .ok y w ∧ VRel θ ρ v y) :
    BinOk θ P ρ w op t (shiftF g) := by
  intro u u' v x x' ox oy hu hu' hv
  cases u <;> simp only [shiftF, reduceCtorEq] at hv
  rename_i k a
  cases u' <;> simp only [reduceCtorEq] at hv
  rename_i j b
  have e1 := vrel_int hu; subst e1
  have e2 := vrel_int hu'; subst e2
  obtain ⟨y, hy, hr⟩ := hg k j a b _ hv
  exact ⟨y, by simp only [Sem.run_bind, guard_int, Result.andThen_ok, hy], hr⟩

theorem not_cond (neg b : Bool) : (if neg = true then !b else b) = (b != neg) := by cases neg <;> cases b <;> rfl

/-- '==' and '!=' where the type's own equality gives the answer -/
theorem eq_run {neg : Bool} {t : TypeId} {x x' : Value} {b : Bool} (ox oy : Operand) (hx : ∀ k a, x ≠ .int k a) (hs : ∀ s, x ≠ .string s) (hf : ∀ k a, x ≠ .float k a) (hc : ∀ k a b, x ≠ .complex k a b)
    (hgd : ∀ op, (eqGuard op t ox oy x x').run P w = .ok () w) (he : (Op.equal t x x').run P w = .ok b w) :
    (do eqGuard (if neg then .neq else .eql) t ox oy x x'; binOp (if neg then .neq else .eql) t x x' : Sem Value).run P w = .ok (.bool (if neg then !b else b)) w := by
  simp only [Sem.run_bind, hgd, Result.andThen_ok]
  cases neg <;> simp only [Bool.false_eq_true, if_false, if_true]
  · cases x <;> first
      | exact absurd rfl (hx _ _)
      | exact absurd rfl (hs _)
      | exact absurd rfl (hf _ _)
      | exact absurd rfl (hc _ _ _)
      | (simp only [binOp, Sem.run_bind, he, Result.andThen_ok, Sem.run_pure])
  · cases x <;> first
      | exact absurd rfl (hx _ _)
      | exact absurd rfl (hs _)
      | exact absurd rfl (hf _ _)
      | exact absurd rfl (hc _ _ _)
      | (simp only [binOp, Sem.run_bind, he, Result.andThen_ok, Sem.run_pure])
end Go.Ev
end

section
set_option autoImplicit false
namespace Go.Ev
variable {θ : Nat → Int} {P : Program} {ρ : Ro} {h : Heap} {w : World}

/-! ### equality by type -/
theorem equal_of {t : TypeId} {x y : Value} {b : Bool} (h : ∀ d, (Op.equalIn (d + 1) t x y).run P w = .ok b w) : (Op.equal t x y).run P w = .ok b w := h 9999
theorem eqBool_ok {neg : Bool} {t : TypeId} (hu : P.underlying t = some .bool) : BinOk θ P ρ w (if neg then .neq else .eql) t (eqBool neg) := by
  intro u u' v x x' ox oy hr hr' hv
  cases u <;> simp only [eqBool, reduceCtorEq] at hv
  rename_i a
  cases u' <;> simp only [reduceCtorEq] at hv
  rename_i b
  have e1 := vrel_bool hr; subst e1
  have e2 := vrel_bool hr'; subst e2
  obtain ⟨c, hc, rfl⟩ := obool_spec hv
  injection hc with hc; subst hc
  refine ⟨_, eq_run ox oy (fun _ _ e => by cases e) (fun _ e => by cases e) (fun _ _ e => by cases e) (fun _ _ _ e => by cases e) (fun op => by cases op <;> simp [eqGuard]) ?_, vrel_bool_mk _⟩
  exact equal_of fun d => run_equalIn_bool' w d t a b hu
theorem eqStr_ok {neg : Bool} {t : TypeId} : BinOk θ P ρ w (if neg then .neq else .eql) t (eqStr neg) := by
  intro u u' v x x' ox oy hr hr' hv
  cases u <;> simp only [eqStr, reduceCtorEq] at hv
  rename_i n s
  cases u' <;> simp only [reduceCtorEq] at hv
  rename_i m s'
  obtain ⟨hn, hb, rfl⟩ := vrel_str hr
  obtain ⟨hm, hb', rfl⟩ := vrel_str hr'
  obtain ⟨c, hc, rfl⟩ := obool_spec hv
  have e := strEqN_sound hn hm hb hb' hc
  refine ⟨_, ?_, vrel_bool_mk _⟩
  simp only [Sem.run_bind, guard_str, Result.andThen_ok]
  cases neg
  · simp only [Bool.false_eq_true, if_false, binOp, Op.stringOp, strOf_toList, e, Sem.run_pure]
  · simp only [if_true, binOp, Op.stringOp, strOf_toList, e, Sem.run_pure]

theorem guard_any {x x' : Value} (op : BinOp) (t : TypeId) (ox oy : Operand) (h1 : x ≠ .nilIface) (h2 : ∀ xs, x ≠ .agg xs) : (eqGuard op t ox oy x x').run P w = .ok () w := by
  cases op <;> first
    | (simp [eqGuard]; done)
    | (cases x <;> first
        | exact absurd rfl h1
        | exact absurd rfl (h2 _)
        | (simp [eqGuard]; done)
        | (cases x' <;> simp [eqGuard]; done))

theorem eqNil_fin {neg : Bool} {t : TypeId} {x x' : Value} {r : Option Bool} {v : V} (ox oy : Operand) (hx : ∀ k a, x ≠ .int k a) (hs : ∀ s, x ≠ .string s) (hf : ∀ k a, x ≠ .float k a)
    (hc : ∀ k a b, x ≠ .complex k a b) (h1 : x ≠ .nilIface) (h2 : ∀ xs, x ≠ .agg xs) (hv : obool neg r = some v) (he : ∀ b, r = some b → (Op.equal t x x').run P w = .ok b w) :
    ∃ y, (do eqGuard (if neg then .neq else .eql) t ox oy x x'; binOp (if neg then .neq else .eql) t x x' : Sem Value).run P w = .ok y w ∧ VRel θ ρ v y := by
  obtain ⟨b, hb, rfl⟩ := obool_spec hv
  exact ⟨_, eq_run ox oy hx hs hf hc (fun op => guard_any op t ox oy h1 h2) (he b hb), vrel_bool_mk _⟩

theorem eqPtr_ok {neg : Bool} {t e : TypeId} (hu : P.underlying t = some (.pointer e)) : BinOk θ P ρ w (if neg then .neq else .eql) t (eqPtr neg) := by
  intro u u' v x x' ox oy hr hr' hv
  unfold eqPtr at hv
  split at hv
  · obtain rfl : x = .pointer none := hr
    obtain rfl : x' = .pointer none := hr'
    refine eqNil_fin ox oy (by simp) (by simp) (by simp) (by simp) (by simp) (by simp) hv fun b hb => ?_
    injection hb with hb; subst hb
    exact equal_of fun d => by simp only [Op.equalIn, Sem.run_bind, run_underlying hu, Result.andThen_ok, Sem.run_pure, Option.isNone]
  · obtain rfl : x = .pointer none := hr
    obtain ⟨p, hp, rfl⟩ := vrel_ptr hr'
    refine eqNil_fin ox oy (by simp) (by simp) (by simp) (by simp) (by simp) (by simp) hv fun b hb => ?_
    injection hb with hb; subst hb
    exact equal_of fun d => by simp only [Op.equalIn, Sem.run_bind, run_underlying hu, Result.andThen_ok, Sem.run_pure, Option.isNone]
  · obtain ⟨p, hp, rfl⟩ := vrel_ptr hr
    obtain rfl : x' = .pointer none := hr'
    refine eqNil_fin ox oy (by simp) (by simp) (by simp) (by simp) (by simp) (by simp) hv fun b hb => ?_
    injection hb with hb; subst hb
    exact equal_of fun d => by simp only [Op.equalIn, Sem.run_bind, run_underlying hu, Result.andThen_ok, Sem.run_pure, Option.isNone]
  · obtain rfl : x = .pointer none := hr
    obtain ⟨q, o, c, rfl, _⟩ := crel_fp hr'
    refine eqNil_fin ox oy (by simp) (by simp) (by simp) (by simp) (by simp) (by simp) hv fun b hb => ?_
    injection hb with hb; subst hb
    exact equal_of fun d => by simp only [Op.equalIn, Sem.run_bind, run_underlying hu, Result.andThen_ok, Sem.run_pure, Option.isNone]
  · obtain ⟨q, o, c, rfl, _⟩ := crel_fp hr
    obtain rfl : x' = .pointer none := hr'
    refine eqNil_fin ox oy (by simp) (by simp) (by simp) (by simp) (by simp) (by simp) hv fun b hb => ?_
    injection hb with hb; subst hb
    exact equal_of fun d => by simp only [Op.equalIn, Sem.run_bind, run_underlying hu, Result.andThen_ok, Sem.run_pure, Option.isNone]
  · cases hv
theorem eqSl_ok {neg : Bool} {t e : TypeId} (hu : P.underlying t = some (.slice e)) : BinOk θ P ρ w (if neg then .neq else .eql) t (eqSl neg) := by
  intro u u' v x x' ox oy hr hr' hv
  unfold eqSl at hv
  split at hv
  · obtain rfl : x = .slice none 0 0 := hr
    obtain rfl : x' = .slice none 0 0 := hr'
    refine eqNil_fin ox oy (by simp) (by simp) (by simp) (by simp) (by simp) (by simp) hv fun b hb => ?_
    injection hb with hb; subst hb
    exact equal_of fun d => by simp only [Op.equalIn, Sem.run_bind, run_underlying hu, Result.andThen_ok, Sem.run_pure, Option.isNone]
  · obtain rfl : x = .slice none 0 0 := hr
    obtain ⟨p, hp, rfl⟩ := vrel_slice hr'
    refine eqNil_fin ox oy (by simp) (by simp) (by simp) (by simp) (by simp) (by simp) hv fun b hb => ?_
    injection hb with hb; subst hb
    exact equal_of fun d => by simp only [Op.equalIn, Sem.run_bind, run_underlying hu, Result.andThen_ok, Sem.run_pure, Option.isNone]
  · obtain ⟨p, hp, rfl⟩ := vrel_slice hr
    obtain rfl : x' = .slice none 0 0 := hr'
    refine eqNil_fin ox oy (by simp) (by simp) (by simp) (by simp) (by simp) (by simp) hv fun b hb => ?_
    injection hb with hb; subst hb
    exact equal_of fun d => by simp only [Op.equalIn, Sem.run_bind, run_underlying hu, Result.andThen_ok, Sem.run_pure, Option.isNone]
  · obtain rfl : x = .slice none 0 0 := hr
    obtain ⟨q, o, cap, c, rfl, _⟩ := crel_fz hr'
    refine eqNil_fin ox oy (by simp) (by simp) (by simp) (by simp) (by simp) (by simp) hv fun b hb => ?_
    injection hb with hb; subst hb
    exact equal_of fun d => by simp only [Op.equalIn, Sem.run_bind, run_underlying hu, Result.andThen_ok, Sem.run_pure, Option.isNone]
  · obtain ⟨q, o, cap, c, rfl, _⟩ := crel_fz hr
    obtain rfl : x' = .slice none 0 0 := hr'
    refine eqNil_fin ox oy (by simp) (by simp) (by simp) (by simp) (by simp) (by simp) hv fun b hb => ?_
    injection hb with hb; subst hb
    exact equal_of fun d => by simp only [Op.equalIn, Sem.run_bind, run_underlying hu, Result.andThen_ok, Sem.run_pure, Option.isNone]
  · obtain rfl : x = .slice none 0 0 := hr
    obtain ⟨a, rfl⟩ : ∃ a, x' = .slice (some a) 0 0 := hr'
    refine eqNil_fin ox oy (by simp) (by simp) (by simp) (by simp) (by simp) (by simp) hv fun b hb => ?_
    injection hb with hb; subst hb
    exact equal_of fun d => by simp only [Op.equalIn, Sem.run_bind, run_underlying hu, Result.andThen_ok, Sem.run_pure, Option.isNone]
  · obtain ⟨a, rfl⟩ : ∃ a, x = .slice (some a) 0 0 := hr
    obtain rfl : x' = .slice none 0 0 := hr'
    refine eqNil_fin ox oy (by simp) (by simp) (by simp) (by simp) (by simp) (by simp) hv fun b hb => ?_
    injection hb with hb; subst hb
    exact equal_of fun d => by simp only [Op.equalIn, Sem.run_bind, run_underlying hu, Result.andThen_ok, Sem.run_pure, Option.isNone]
  · cases hv
theorem eqMap_ok {neg : Bool} {t k e : TypeId} (hu : P.underlying t = some (.map k e)) : BinOk θ P ρ w (if neg then .neq else .eql) t (eqMap neg) := by
  intro u u' v x x' ox oy hr hr' hv
  unfold eqMap at hv
  split at hv
  · obtain rfl : x = .map none := hr
    obtain rfl : x' = .map none := hr'
    refine eqNil_fin ox oy (by simp) (by simp) (by simp) (by simp) (by simp) (by simp) hv fun b hb => ?_
    injection hb with hb; subst hb
    exact equal_of fun d => by simp only [Op.equalIn, Sem.run_bind, run_underlying hu, Result.andThen_ok, Sem.run_pure, Option.isNone]
  · obtain rfl : x = .map none := hr
    obtain ⟨p, hp, rfl⟩ : ∃ p, _ := hr'
    refine eqNil_fin ox oy (by simp) (by simp) (by simp) (by simp) (by simp) (by simp) hv fun b hb => ?_
    injection hb with hb; subst hb
    exact equal_of fun d => by simp only [Op.equalIn, Sem.run_bind, run_underlying hu, Result.andThen_ok, Sem.run_pure, Option.isNone]
  · obtain ⟨p, hp, rfl⟩ : ∃ p, _ := hr
    obtain rfl : x' = .map none := hr'
    refine eqNil_fin ox oy (by simp) (by simp) (by simp) (by simp) (by simp) (by simp) hv fun b hb => ?_
    injection hb with hb; subst hb
    exact equal_of fun d => by simp only [Op.equalIn, Sem.run_bind, run_underlying hu, Result.andThen_ok, Sem.run_pure, Option.isNone]
  · cases hv
theorem eqFn_ok {neg : Bool} {t : TypeId} {ps rs : Array TypeId} {vr : Bool} (hu : P.underlying t = some (.func ps rs vr)) : BinOk θ P ρ w (if neg then .neq else .eql) t (eqFn neg) := by
  intro u u' v x x' ox oy hr hr' hv
  unfold eqFn at hv
  split at hv
  · obtain rfl : x = .nilFunc := hr
    obtain rfl : x' = .nilFunc := hr'
    refine eqNil_fin ox oy (by simp) (by simp) (by simp) (by simp) (by simp) (by simp) hv fun b hb => ?_
    injection hb with hb; subst hb
    exact equal_of fun d => by simp only [Op.equalIn, Sem.run_bind, run_underlying hu, Result.andThen_ok, Sem.run_pure, Option.isNone]
  · obtain rfl : x = .nilFunc := hr
    obtain ⟨xs, rfl, _⟩ : ∃ xs, _ := hr'
    refine eqNil_fin ox oy (by simp) (by simp) (by simp) (by simp) (by simp) (by simp) hv fun b hb => ?_
    injection hb with hb; subst hb
    exact equal_of fun d => by simp only [Op.equalIn, Sem.run_bind, run_underlying hu, Result.andThen_ok, Sem.run_pure, Option.isNone]
  · obtain ⟨xs, rfl, _⟩ : ∃ xs, _ := hr
    obtain rfl : x' = .nilFunc := hr'
    refine eqNil_fin ox oy (by simp) (by simp) (by simp) (by simp) (by simp) (by simp) hv fun b hb => ?_
    injection hb with hb; subst hb
    exact equal_of fun d => by simp only [Op.equalIn, Sem.run_bind, run_underlying hu, Result.andThen_ok, Sem.run_pure, Option.isNone]
  · cases hv

/-! ### equality cell by cell -/
theorem leaf1 {a b : V} {x y : Value} {r : Bool} (ha : CRel θ ρ a x) (hb : CRel θ ρ b y) (h : leafEq 1 a b = some r) : ∃ k m n, x = .int k m ∧ y = .int k n ∧ (m == n) = r := by
  have fin : ∀ m n : Int, decide (m = n) = r → (m == n) = r := fun m n h => h
  cases a <;> simp only [leafEq, reduceCtorEq] at h
  · cases b <;> simp only [reduceCtorEq] at h
    · obtain ⟨h1, h2⟩ := bsel_bad_opt h
      rw [kindEq_iff, decide_eq_true_iff] at h1; subst h1
      injection h2 with h2; subst h2
      exact ⟨_, _, _, ha, hb, by rw [intEq_eq]⟩
    · obtain ⟨h1, h2⟩ := bsel_bad_opt h
      rw [kindEq_iff, decide_eq_true_iff] at h1; subst h1
      obtain ⟨hb1, hb2⟩ := hb
      have := seEq_ok (θ := θ) (a := .mk _ []) okT_nil hb1 h2
      rw [evalc] at this
      exact ⟨_, _, _, ha, hb2, fin _ _ this⟩
  · cases b <;> simp only [reduceCtorEq] at h
    · obtain ⟨h1, h2⟩ := bsel_bad_opt h
      rw [kindEq_iff, decide_eq_true_iff] at h1; subst h1
      obtain ⟨ha1, ha2⟩ := ha
      have := seEq_ok (θ := θ) (b := .mk _ []) ha1 okT_nil h2
      rw [evalc] at this
      exact ⟨_, _, _, ha2, hb, fin _ _ this⟩
    · obtain ⟨h1, h2⟩ := bsel_bad_opt h
      rw [kindEq_iff, decide_eq_true_iff] at h1; subst h1
      obtain ⟨ha1, ha2⟩ := ha
      obtain ⟨hb1, hb2⟩ := hb
      have := seEq_ok ha1 hb1 h2
      exact ⟨_, _, _, ha2, hb2, fin _ _ this⟩
theorem leafEq_run {d : Nat} {t : TypeId} {k : Nat} {a b : V} {x y : Value} {r : Bool}
    (hk : (k = 0 ∧ P.underlying t = some .bool) ∨ (k = 1 ∧ ∃ i, P.underlying t = some (.int i)) ∨ (k = 2 ∧ P.underlying t = some .string))
    (ha : CRel θ ρ a x) (hb : CRel θ ρ b y) (h : leafEq k a b = some r) : (Op.equalIn (d + 1) t x y).run P w = .ok r w := by
  rcases hk with ⟨rfl, hu⟩ | ⟨rfl, i, hu⟩ | ⟨rfl, hu⟩
  · cases a <;> simp only [leafEq, reduceCtorEq] at h
    cases b <;> simp only [reduceCtorEq] at h
    injection h with h; subst h
    obtain rfl : x = _ := ha
    obtain rfl : y = _ := hb
    exact run_equalIn_bool' w d t _ _ hu
  · obtain ⟨k, m, n, rfl, rfl, e⟩ := leaf1 ha hb h
    have := run_equalIn_int (P := P) w d t k i m n hu
    rw [e] at this; exact this
  · cases a <;> simp only [leafEq, reduceCtorEq] at h
    rename_i n s
    cases b <;> simp only [reduceCtorEq] at h
    rename_i m s'
    obtain ⟨hn, hs, rfl⟩ := ha
    obtain ⟨hm, hs', rfl⟩ := hb
    have e := strEqN_sound hn hm hs hs' h
    rw [run_equalIn_string w d t _ _ hu, strOf_toList, strOf_toList, e]

theorem cellsEq_append : ∀ {ks ks' : List Nat} {a b : List V} {r : Bool}, ks.length ≤ a.length → ks.length ≤ b.length → cellsEq (ks ++ ks') a b = some r →
    ∃ r1, cellsEq ks (a.take ks.length) (b.take ks.length) = some r1 ∧ (r1 = false → r = false) ∧ (r1 = true → cellsEq ks' (a.drop ks.length) (b.drop ks.length) = some r) := by
  intro ks
  induction ks with
  | nil => intro ks' a b r _ _ h; exact ⟨true, rfl, fun e => (by cases e), fun _ => by simpa using h⟩
  | cons k ks ih =>
    intro ks' a b r ha hb h
    cases a with
    | nil => simp at ha
    | cons x a =>
      cases b with
      | nil => simp at hb
      | cons y b =>
        simp only [List.cons_append, cellsEq] at h
        simp only [List.length_cons, List.take_succ_cons, List.drop_succ_cons, cellsEq]
        cases hl : leafEq k x y with
        | none => rw [hl] at h; cases h
        | some c =>
          rw [hl] at h
          cases c with
          | false => exact ⟨false, rfl, fun _ => (by injection h with h; exact h.symm), fun e => by cases e⟩
          | true => exact ih (by simpa using ha) (by simpa using hb) h

/-- what equality at a type comes to -/
def FlatOk (θ : Nat → Int) (P : Program) (ρ : Ro) (w : World) (d : Nat) (t : TypeId) (ks : List Nat) : Prop :=
  ∀ (D : Nat) (a b : List V) (xs ys : Array Value) (off : Nat) (r : Bool), d ≤ D → szOf P t = some ks.length → All2 (CRel θ ρ) a xs.toList → All2 (CRel θ ρ) b ys.toList →
    off + ks.length ≤ a.length → off + ks.length ≤ b.length → cellsEq ks ((a.drop off).take ks.length) ((b.drop off).take ks.length) = some r →
    (do let x ← part t xs off; let y ← part t ys off; Op.equalIn D t x y : Sem Bool).run P w = .ok r w

theorem flat_leaf {d k : Nat} {t : TypeId} (hag : isAggT P t = some false)
    (hk : (k = 0 ∧ P.underlying t = some .bool) ∨ (k = 1 ∧ ∃ i, P.underlying t = some (.int i)) ∨ (k = 2 ∧ P.underlying t = some .string)) : FlatOk θ P ρ w (d + 1) t [k] := by
  intro D a b xs ys off r hD hs ha hb ho ho' h
  obtain ⟨D, rfl⟩ : ∃ D', D = D' + 1 := ⟨D - 1, by omega⟩
  simp only [List.length_cons, List.length_nil, Nat.zero_add] at ho ho' h
  have hao : off < a.length := by omega
  have hbo : off < b.length := by omega
  have ea : (a.drop off).take 1 = [a[off]] := by rw [List.drop_eq_getElem_cons hao]; rfl
  have eb : (b.drop off).take 1 = [b[off]] := by rw [List.drop_eq_getElem_cons hbo]; rfl
  rw [ea, eb] at h
  obtain ⟨x, hx, hrx⟩ := ha.get (List.getElem?_eq_getElem hao)
  obtain ⟨y, hy, hry⟩ := hb.get (List.getElem?_eq_getElem hbo)
  rw [Array.getElem?_toList] at hx hy
  simp only [cellsEq] at h
  have hl : leafEq k a[off] b[off] = some r := by
    cases hl : leafEq k a[off] b[off] with
    | none => rw [hl] at h; cases h
    | some c =>
      rw [hl] at h
      cases c with
      | true => exact h
      | false => exact h
  have := leafEq_run (w := w) (d := D) hk hrx hry hl
  simp [part, run_isAgg hag, hx, hy, this]

theorem run_part_agg {t : TypeId} {n : Nat} (ha : isAggT P t = some true) (hn : szOf P t = some n) (xs : Array Value) (off : Nat) :
    (part t xs off).run P w = .ok (.agg (xs.extract off (off + n))) w := by simp [part, run_isAgg ha, run_sizeOf hn]

theorem flat_fields {d : Nat} {rec : TypeId → Option (List Nat)} (hrec : ∀ t ks, rec t = some ks → FlatOk θ P ρ w d t ks) : ∀ (fs : List Field) (acc ks : List Nat),
    ksFields rec (szOf P) fs acc = some ks → ∃ rest, ks = acc ++ rest ∧ ∀ (D : Nat) (a b : List V) (xs ys : Array Value) (r : Bool), d ≤ D → All2 (CRel θ ρ) a xs.toList → All2 (CRel θ ρ) b ys.toList →
      a.length = ks.length → b.length = ks.length → cellsEq rest (a.drop acc.length) (b.drop acc.length) = some r → (Op.eqFields D xs ys fs).run P w = .ok r w
  | [], acc, ks, h => by
    simp only [ksFields, Option.some.injEq] at h; subst h
    refine ⟨[], by simp, fun D a b xs ys r _ _ _ hla hlb h => ?_⟩
    rw [List.drop_of_length_le (by omega), List.drop_of_length_le (by omega)] at h
    simp only [cellsEq, Option.some.injEq] at h; subst h
    simp [Op.eqFields]
  | f :: fs, acc, ks, h => by
    simp only [ksFields] at h
    split at h
    · rename_i kf n hkf hn
      cases hc : (f.name != "_" && Nat.beq f.offset acc.length && Nat.beq n kf.length) with
      | false => rw [hc] at h; cases h
      | true =>
        rw [hc, cond_true] at h
        simp only [Bool.and_eq_true, nbeq_iff, decide_eq_true_eq, bne_iff_ne, ne_eq] at hc
        obtain ⟨⟨hname, hoff⟩, hlen⟩ := hc
        obtain ⟨rest, hks, hrest⟩ := flat_fields hrec fs (acc ++ kf) ks h
        refine ⟨kf ++ rest, by rw [hks, List.append_assoc], fun D a b xs ys r hD ha hb hla hlb h => ?_⟩
        have hl : ks.length = acc.length + kf.length + rest.length := by rw [hks]; simp; omega
        obtain ⟨r1, e1, f1, t1⟩ := cellsEq_append (by simp; omega) (by simp; omega) h
        have hf := hrec _ _ hkf D a b xs ys f.offset r1 hD (by rw [hn, hlen]) ha hb (by omega) (by omega) (by rw [hoff]; exact e1)
        rw [Op.eqFields, if_pos hname]
        have hsplit : (do
            let a ← part f.type xs f.offset
            let b ← part f.type ys f.offset
            let r ← Op.equalIn D f.type a b
            if (!r) = true then pure false else Op.eqFields D xs ys fs : Sem Bool) = (do
            let r ← (do let x ← part f.type xs f.offset; let y ← part f.type ys f.offset; Op.equalIn D f.type x y : Sem Bool)
            if (!r) = true then pure false else Op.eqFields D xs ys fs) := by simp only [bind_assoc]
        rw [hsplit, Sem.run_bind, hf, Result.andThen_ok]
        cases r1 with
        | false => simp [f1 rfl]
        | true =>
          simp only [Bool.not_true, Bool.false_eq_true, if_false]
          refine hrest D a b xs ys r hD ha hb hla hlb ?_
          have := t1 rfl
          simpa [List.drop_drop, List.length_append, Nat.add_comm] using this
    · cases h
end Go.Ev
end

section
set_option autoImplicit false
namespace Go.Ev
variable {θ : Nat → Int} {P : Program} {ρ : Ro} {h : Heap} {w : World}

theorem szOf_info {t : TypeId} {n : Nat} (hn : szOf P t = some n) : ∃ i, P.info? t = some i ∧ P.cellsOf t = n := by
  unfold szOf at hn
  cases hi : P.info? t with
  | none => rw [hi] at hn; cases hn
  | some i => rw [hi] at hn; injection hn with hn; exact ⟨i, rfl, by simp [Program.cellsOf, hi, hn]⟩

theorem flat_items {d m : Nat} {e : TypeId} {ks : List Nat} (hf : FlatOk θ P ρ w d e ks) (hs : szOf P e = some m) (hm : m = ks.length) : ∀ (n j : Nat) (D : Nat) (a b : List V) (xs ys : Array Value) (off : Nat) (r : Bool),
    d ≤ D → All2 (CRel θ ρ) a xs.toList → All2 (CRel θ ρ) b ys.toList → (j + n) * m ≤ a.length → (j + n) * m ≤ b.length → off = j * m →
    cellsEq ((List.replicate n ks).flatten) ((a.drop off).take (n * m)) ((b.drop off).take (n * m)) = some r →
    (Op.eqItems D e m xs ys (List.range' j n)).run P w = .ok r w
  | 0, j, D, a, b, xs, ys, off, r, _, _, _, _, _, _, h => by
    simp only [List.replicate_zero, List.flatten_nil, Nat.zero_mul, List.take_zero, cellsEq, Option.some.injEq] at h
    subst h; simp [Op.eqItems]
  | n + 1, j, D, a, b, xs, ys, off, r, hD, ha, hb, hla, hlb, ho, h => by
    have e1 : (j + (n + 1)) * m = j * m + m + n * m := by rw [Nat.add_mul, Nat.add_mul]; omega
    rw [List.replicate_succ, List.flatten_cons] at h
    have hlen : ((a.drop off).take ((n + 1) * m)).length = (n + 1) * m := by simp; rw [Nat.add_mul]; omega
    have hlen' : ((b.drop off).take ((n + 1) * m)).length = (n + 1) * m := by simp; rw [Nat.add_mul]; omega
    have e2 : (n + 1) * m = m + n * m := by rw [Nat.add_mul]; omega
    obtain ⟨r1, c1, f1, t1⟩ := cellsEq_append (by rw [hlen, e2]; omega) (by rw [hlen', e2]; omega) h
    rw [List.take_take, List.take_take, Nat.min_eq_left (by rw [e2]; omega)] at c1
    have hstep := hf D a b xs ys off r1 hD (by rw [hs, hm]) ha hb (by omega) (by omega) c1
    rw [List.range'_succ]
    have hsplit : (Op.eqItems D e m xs ys (j :: List.range' (j + 1) n)) = (do
            let r ← (do let x ← part e xs off; let y ← part e ys off; Op.equalIn D e x y : Sem Bool)
            if (!r) = true then pure false else Op.eqItems D e m xs ys (List.range' (j + 1) n)) := by
      simp only [Op.eqItems, bind_assoc, ho]
    rw [hsplit, Sem.run_bind, hstep, Result.andThen_ok]
    cases r1 with
    | false => simp [f1 rfl]
    | true =>
      simp only [Bool.not_true, Bool.false_eq_true, if_false]
      have h2 := t1 rfl
      rw [List.drop_take, List.drop_take, List.drop_drop, List.drop_drop, ← hm, show (n + 1) * m - m = n * m by rw [e2]; omega] at h2
      refine flat_items hf hs hm n (j + 1) D a b xs ys (off + m) r hD ha hb (by rw [show j + 1 + n = j + (n + 1) by omega]; exact hla) (by rw [show j + 1 + n = j + (n + 1) by omega]; exact hlb) (by rw [ho, Nat.add_mul]; omega) h2

theorem eqItems_range (D : Nat) (e : TypeId) (m : Nat) (xs ys : Array Value) (n : Nat) : Op.eqItems D e m xs ys (List.range n) = Op.eqItems D e m xs ys (List.range' 0 n) := by rw [List.range_eq_range']

theorem kinds_ok : ∀ (d : Nat) (t : TypeId) (ks : List Nat), kinds P d t = some ks → FlatOk θ P ρ w d t ks
  | 0, _, _, h => by cases h
  | d + 1, t, ks, h => by
    simp only [kinds] at h
    cases hu : P.underlying t with
    | none => rw [hu] at h; cases h
    | some ty =>
      rw [hu] at h
      cases ty <;> simp only [reduceCtorEq] at h
      case bool => injection h with h; subst h; exact flat_leaf (by unfold isAggT; rw [hu]) (.inl ⟨rfl, hu⟩)
      case int i => injection h with h; subst h; exact flat_leaf (by unfold isAggT; rw [hu]) (.inr (.inl ⟨rfl, i, hu⟩))
      case string => injection h with h; subst h; exact flat_leaf (by unfold isAggT; rw [hu]) (.inr (.inr ⟨rfl, hu⟩))
      case struct fs =>
        cases hst : P.stoodInHeld t with
        | true => rw [hst] at h; cases h
        | false =>
          rw [hst, cond_false] at h
          have hag : isAggT P t = some true := by unfold isAggT; rw [hu]
          have hfo : P.fieldsOf t = fs := by simp [Program.fieldsOf, hu]
          obtain ⟨rest, hks, hf⟩ := flat_fields (w := w) (kinds_ok d) fs.toList [] ks h
          simp only [List.nil_append] at hks; subst hks
          intro D a b xs ys off r hD hs ha hb ho ho' hc
          obtain ⟨D, rfl⟩ : ∃ D', D = D' + 1 := ⟨D - 1, by omega⟩
          simp only [Sem.run_bind, run_part_agg hag hs, Result.andThen_ok]
          rw [run_equalIn_struct w D t _ _ (by rw [hfo]; exact hu) hst, hfo]
          have ea := (ha.drop off).take ks.length
          have eb := (hb.drop off).take ks.length
          refine hf D _ _ _ _ r (by omega) (by rw [Array.toList_extract]; simpa [List.extract, show off + ks.length - off = ks.length by omega] using ea)
            (by rw [Array.toList_extract]; simpa [List.extract, show off + ks.length - off = ks.length by omega] using eb) (by simp; omega) (by simp; omega) (by simpa using hc)
      case array n e =>
        split at h
        · rename_i ke m hke hm
          cases hml : Nat.beq m ke.length with
          | false => rw [hml] at h; cases h
          | true =>
            rw [hml, cond_true] at h
            injection h with h; subst h
            rw [nbeq_iff, decide_eq_true_iff] at hml
            have hag : isAggT P t = some true := by unfold isAggT; rw [hu]
            obtain ⟨i, hi, hcell⟩ := szOf_info hm
            have hlen : (List.replicate n ke).flatten.length = n * m := by simp [hml]
            intro D a b xs ys off r hD hs ha hb ho ho' hc
            rw [hlen] at hs ho ho' hc
            obtain ⟨D, rfl⟩ : ∃ D', D = D' + 1 := ⟨D - 1, by omega⟩
            simp only [Sem.run_bind, run_part_agg hag hs, Result.andThen_ok]
            rw [run_equalIn_array w D _ _ hu hi, hcell, eqItems_range]
            have ea := (ha.drop off).take (n * m)
            have eb := (hb.drop off).take (n * m)
            refine flat_items (kinds_ok d e ke hke) hm hml n 0 D _ _ _ _ 0 r (by omega) (by rw [Array.toList_extract]; simpa [List.extract, show off + n * m - off = n * m by omega] using ea)
              (by rw [Array.toList_extract]; simpa [List.extract, show off + n * m - off = n * m by omega] using eb) (by simp; omega) (by simp; omega) (by simp) ?_
            simpa [List.take_take] using hc
        · cases h

theorem kinds_eqGuard : ∀ (d : Nat) (t : TypeId) (ks : List Nat) (D : Nat), kinds P d t = some ks → d ≤ D → P.eqGuardType D t = false
  | 0, _, _, _, h, _ => by cases h
  | d + 1, t, ks, D, h, hD => by
    obtain ⟨D, rfl⟩ : ∃ D', D = D' + 1 := ⟨D - 1, by omega⟩
    simp only [kinds] at h
    simp only [Program.eqGuardType]
    cases hu : P.underlying t with
    | none => rfl
    | some ty =>
      rw [hu] at h
      cases ty <;> simp only [reduceCtorEq] at h <;> try rfl
      case struct fs =>
        cases hst : P.stoodInHeld t with
        | true => rw [hst] at h; cases h
        | false =>
          rw [hst, cond_false] at h
          show (fs.any fun f => f.name != "_" && P.eqGuardType D f.type) = false
          rw [← Array.any_toList]
          have key : ∀ (l : List Field) (acc : List Nat), ksFields (kinds P d) (szOf P) l acc = some ks → (l.any fun f => f.name != "_" && P.eqGuardType D f.type) = false := by
            intro l
            induction l with
            | nil => intro acc _; rfl
            | cons f l ih =>
              intro acc hh
              simp only [ksFields] at hh
              split at hh
              · rename_i kf n hkf hn
                cases hc : (f.name != "_" && Nat.beq f.offset acc.length && Nat.beq n kf.length) with
                | false => rw [hc] at hh; cases hh
                | true =>
                  rw [hc, cond_true] at hh
                  simp only [List.any_cons, kinds_eqGuard d f.type kf D hkf (by omega), Bool.and_false, Bool.false_or]
                  exact ih _ hh
              · cases hh
          exact key _ _ h
      case array n e =>
        split at h
        · rename_i ke m hke hm
          exact kinds_eqGuard d e ke D hke (by omega)
        · cases h

theorem bytesLess_total : ∀ (x y : List UInt8), (Op.bytesLess x y || (x == y)) = !Op.bytesLess y x := by
  intro x
  induction x with
  | nil => intro y; cases y <;> simp [Op.bytesLess]
  | cons a x ih =>
    intro y
    cases y with
    | nil => simp [Op.bytesLess]
    | cons b y =>
      simp only [Op.bytesLess, List.cons_beq_cons]
      rcases Nat.lt_trichotomy a.toNat b.toNat with h | h | h
      · have h1 : decide (a < b) = true := decide_eq_true (UInt8.lt_iff_toNat_lt.2 h)
        have h2 : decide (b < a) = false := decide_eq_false fun e => by have := UInt8.lt_iff_toNat_lt.1 e; omega
        have h3 : (b == a) = false := beq_eq_false_iff_ne.2 fun e => by rw [e] at h; omega
        simp [h1, h2, h3]
      · have e : a = b := UInt8.toNat_inj.1 h
        subst e
        have h1 : decide (a < a) = false := decide_eq_false fun e => by have := UInt8.lt_iff_toNat_lt.1 e; omega
        simp [← ih y]
      · have h1 : decide (a < b) = false := decide_eq_false fun e => by have := UInt8.lt_iff_toNat_lt.1 e; omega
        have h2 : decide (b < a) = true := decide_eq_true (UInt8.lt_iff_toNat_lt.2 h)
        have h3 : (a == b) = false := beq_eq_false_iff_ne.2 fun e => by rw [e] at h; omega
        simp [h1, h2, h3]

theorem depth_ge : 20 ≤ P.depth := by unfold Program.depth Made.depth; omega

theorem eqAgg_ok {neg : Bool} {t : TypeId} {n : Nat} {ks : List Nat} (hag : isAggT P t = some true) (hk : kinds P 20 t = some ks) (hs : szOf P t = some n) (hn : n = ks.length) :
    BinOk θ P ρ w (if neg then .neq else .eql) t (eqAgg neg n ks) := by
  intro u u' v x x' ox oy hr hr' hv
  unfold eqAgg at hv
  split at hv
  · rename_i n1 a n2 b
    obtain ⟨h1, hv⟩ := bsel_bad_opt hv
    simp only [band_eq, Bool.and_eq_true, nbeq_iff, decide_eq_true_eq] at h1
    obtain ⟨e1, xs, rfl, ha⟩ := vrel_agg hr
    obtain ⟨e2, ys, rfl, hb⟩ := vrel_agg hr'
    obtain ⟨r, hc, rfl⟩ := obool_spec hv
    refine ⟨_, eq_run ox oy (fun _ _ e => by cases e) (fun _ e => by cases e) (fun _ _ e => by cases e) (fun _ _ _ e => by cases e)
        (fun op => run_eqGuard_agg w op t ox oy xs ys (kinds_eqGuard 20 t ks _ hk depth_ge)) ?_, vrel_bool_mk _⟩
    have hla : a.length = n := by omega
    have hlb : b.length = n := by omega
    have hx : xs.size = n := by rw [← hla, ha.length]; simp
    have hy : ys.size = n := by rw [← hlb, hb.length]; simp
    have := kinds_ok (θ := θ) (ρ := ρ) (w := w) 20 t ks hk 10000 a b xs ys 0 r (by omega) (by rw [hs, hn]) ha hb (by omega) (by omega)
      (by rw [List.drop_zero, List.drop_zero, List.take_of_length_le (by omega), List.take_of_length_le (by omega)]; exact hc)
    simp only [Sem.run_bind, run_part_agg hag (by rw [hs, hn] : szOf P t = some ks.length), Result.andThen_ok, Nat.zero_add] at this
    rw [← hn, ← hx] at this
    rw [Array.extract_size, hx, ← hy, Array.extract_size] at this
    exact this
  · cases hv

theorem eqOf_ok {neg : Bool} {g : G2} {sg : S2} {t : TypeId} {f : V → V → Option V} (hf : eqOf P neg g sg t = .mk f)
    (hg : ∀ (k : IntKind) (a b : Int) (v : V), g k a b = some v → ∃ y, (binOp (if neg then .neq else .eql) t (.int k a) (.int k b)).run P w = .ok y w ∧ VRel θ ρ v y)
    (hsg : ∀ (k : IntKind) (a b : SE) (v : V), a.Ok θ → b.Ok θ → sg k a b = some v → ∃ y, (binOp (if neg then .neq else .eql) t (.int k (a.eval θ)) (.int k (b.eval θ))).run P w = .ok y w ∧ VRel θ ρ v y) :
    BinOk θ P ρ w (if neg then .neq else .eql) t f := by
  unfold eqOf at hf
  split at hf
  · injection hf with hf; subst hf; exact orF_ok (intF_ok hg noF_ok) (symF_ok hsg)
  · rename_i hu; injection hf with hf; subst hf; exact eqBool_ok hu
  · injection hf with hf; subst hf; exact eqStr_ok
  · rename_i hu; injection hf with hf; subst hf; exact eqPtr_ok hu
  · rename_i hu; injection hf with hf; subst hf; exact eqSl_ok hu
  · rename_i hu; injection hf with hf; subst hf; exact eqMap_ok hu
  · rename_i hu; injection hf with hf; subst hf; exact eqFn_ok hu
  all_goals try
    rename_i hu
    have hag : isAggT P t = some true := by unfold isAggT; rw [hu]
    split at hf
    · rename_i ks n hk hs
      rw [bsel_eq] at hf
      split at hf
      · rename_i hb
        rw [nbeq_iff, decide_eq_true_iff] at hb
        injection hf with hf; subst hf
        exact eqAgg_ok hag hk hs hb
      · cases hf
    · cases hf
  · cases hf

theorem g2_int {op : BinOp} {t : TypeId} {k : IntKind} {a b n : Int} {v : V} (hr : (binOp op t (.int k a) (.int k b)).run P w = .ok (.int k n) w) (hv : v = .int k n) :
    ∃ y, (binOp op t (.int k a) (.int k b)).run P w = .ok y w ∧ VRel θ ρ v y := ⟨_, hr, by rw [hv]; rfl⟩
theorem g2_bool {op : BinOp} {t : TypeId} {k : IntKind} {a b : Int} {c : Bool} {v : V} (hr : (binOp op t (.int k a) (.int k b)).run P w = .ok (.bool c) w) (hv : v = .bool c) :
    ∃ y, (binOp op t (.int k a) (.int k b)).run P w = .ok y w ∧ VRel θ ρ v y := ⟨_, hr, by rw [hv]; rfl⟩
theorem wInt_spec {k : IntKind} {n : Int} {v : V} (h : wInt k n = some v) : v = .int k (k.wrap n) := by
  injection h with h; rw [← h, wrapA_eq]

theorem not_lt_dec (a b : Int) : (!decide (b < a)) = decide (a ≤ b) := by
  rw [← decide_not]; exact decide_eq_decide.2 Int.not_lt
theorem sBool_spec {neg : Bool} {r : Option Bool} {v : V} (h : sBool neg r = some v) : ∃ b, r = some b ∧ v = .bool (if neg then !b else b) := by
  obtain ⟨b, hb, h⟩ := ob_eq_some h
  injection h with h
  exact ⟨b, hb, by rw [← h]; cases neg <;> rfl⟩
theorem s_int {op : BinOp} {t : TypeId} {k : IntKind} {a b : Int} {e : SE} {n : Int} {v : V} (hr : (binOp op t (.int k a) (.int k b)).run P w = .ok (.int k (k.wrap n)) w) (he : e.Ok θ) (hn : e.eval θ = n) (h : mkS k e = some v) :
    ∃ y, (binOp op t (.int k a) (.int k b)).run P w = .ok y w ∧ VRel θ ρ v y := by
  obtain ⟨h1, h2⟩ := mkS_ok (ρ := ρ) he h
  rw [hn] at h1 h2
  rw [h1] at hr
  exact ⟨_, hr, h2⟩
theorem sMul_spec {k : IntKind} {a b : SE} {v : V} (ha : a.Ok θ) (hb : b.Ok θ) (h : sMul k a b = some v) : ∃ e : SE, e.Ok θ ∧ e.eval θ = a.eval θ * b.eval θ ∧ mkS k e = some v := by
  obtain ⟨c, ts⟩ := a
  cases ts with
  | nil =>
    obtain ⟨h1, h2⟩ := seScl_ok c hb
    exact ⟨_, h1, by rw [h2, evalc], h⟩
  | cons t l =>
    obtain ⟨d, us⟩ := b
    cases us with
    | nil =>
      obtain ⟨h1, h2⟩ := seScl_ok d ha
      exact ⟨_, h1, by rw [h2, evalc, Int.mul_comm], h⟩
    | cons _ _ => cases h
theorem sDiv_spec {k : IntKind} {a b : SE} {g : Int → SE} {v : V} (h : (match b with
    | .mk d us => match us with
      | [] => bsel (divOk d a) (mkS k (g d)) none
      | _ :: _ => none) = some v) : ∃ d, b.eval θ = d ∧ divOk d a = true ∧ mkS k (g d) = some v := by
  obtain ⟨d, us⟩ := b
  cases us with
  | nil =>
    obtain ⟨h1, h2⟩ := bsel_bad_opt h
    exact ⟨d, evalc d, h1, h2⟩
  | cons _ _ => cases h
theorem ivBool_spec {neg : Bool} {r : Option Bool} {v : V} (h : ivBool neg r = some v) : ∃ b, r = some b ∧ v = .bool (if neg then !b else b) := by
  obtain ⟨b, hb, h⟩ := ob_eq_some h
  injection h with h
  exact ⟨b, hb, by rw [← h]; cases neg <;> rfl⟩
theorem ivQuo_ok {t : TypeId} {k : IntKind} {a b c d m n : Int} {v : V} (h1 : a ≤ m) (h2 : m ≤ b) (h3 : c ≤ n) (h4 : n ≤ d) (h : ivQuo k a b c d = some v) : ∃ y, (binOp .quo t (.int k m) (.int k n)).run P w = .ok y w ∧ VRel θ ρ v y := by
  obtain ⟨hc, h5⟩ := bsel_bad_opt h
  clear h
  simp only [band_eq, Bool.and_eq_true, intLt_eq, intEq_eq, Bool.not_eq_true', beq_iff_eq, decide_eq_true_eq, decide_eq_false_iff_not] at hc
  obtain ⟨hcd, hc0, ha0⟩ := hc
  obtain rfl : c = n := by omega
  have e : m.tdiv c = m / c := Int.tdiv_eq_ediv_of_nonneg (by omega)
  obtain ⟨g1, g2⟩ := mkIv_ok (ρ := ρ) (θ := θ) h5 (Int.ediv_le_ediv hc0 h1) (Int.ediv_le_ediv hc0 h2)
  refine ⟨_, ?_, g2⟩
  have : ¬ c = 0 := by omega
  simp [binOp, Op.intDiv, this, e, g1]
theorem ivRem_ok {t : TypeId} {k : IntKind} {a b c d m n : Int} {v : V} (h1 : a ≤ m) (h3 : c ≤ n) (h4 : n ≤ d) (h : ivRem k a b c d = some v) : ∃ y, (binOp .rem t (.int k m) (.int k n)).run P w = .ok y w ∧ VRel θ ρ v y := by
  obtain ⟨hc, h5⟩ := bsel_bad_opt h
  clear h
  simp only [band_eq, Bool.and_eq_true, intLt_eq, intEq_eq, Bool.not_eq_true', beq_iff_eq, decide_eq_true_eq, decide_eq_false_iff_not] at hc
  obtain ⟨hcd, hc0, ha0⟩ := hc
  obtain rfl : c = n := by omega
  have e : m.tmod c = m % c := Int.tmod_eq_emod_of_nonneg (by omega)
  have b1 := Int.emod_nonneg m (by omega : c ≠ 0)
  have b2 := Int.emod_lt_of_pos m hc0
  rw [iSub_eq] at h5
  obtain ⟨g1, g2⟩ := mkIv_ok (ρ := ρ) (θ := θ) (n := m % c) h5 b1 (by omega)
  refine ⟨_, ?_, g2⟩
  have : ¬ c = 0 := by omega
  simp [binOp, Op.intDiv, this, e]
theorem binF_ok {op : BinOp} {t : TypeId} {f : V → V → Option V} (hf : binF P op t = .mk f) : BinOk θ P ρ w op t f := by
  cases op <;> simp only [binF] at hf
  case add =>
    injection hf with hf; subst hf
    refine orF_ok (intF_ok (fun k a b v h => ?_) addF_ok) (symF_ok fun k a b v ha hb h => ?_)
    · refine g2_int (n := k.wrap (a + b)) (by simp [binOp, Op.intArith]) ?_
      rw [wInt_spec h, iAdd_eq]
    · obtain ⟨h1, h2⟩ := seAdd_ok ha hb
      exact s_int (n := a.eval θ + b.eval θ) (by simp [binOp, Op.intArith]) h1 h2 h
  case sub =>
    injection hf with hf; subst hf
    refine orF_ok (intF_ok (fun k a b v h => ?_) noF_ok) (symF_ok fun k a b v ha hb h => ?_)
    · refine g2_int (n := k.wrap (a - b)) (by simp [binOp, Op.intArith]) ?_
      rw [wInt_spec h, iSub_eq]
    · obtain ⟨h1, h2⟩ := seSub_ok ha hb
      exact s_int (n := a.eval θ - b.eval θ) (by simp [binOp, Op.intArith]) h1 h2 h
  case mul =>
    injection hf with hf; subst hf
    refine orF_ok (intF_ok (fun k a b v h => ?_) noF_ok) (symF_ok fun k a b v ha hb h => ?_)
    · refine g2_int (n := k.wrap (a * b)) (by simp [binOp, Op.intArith]) ?_
      rw [wInt_spec h]; rfl
    · obtain ⟨e, h1, h2, h3⟩ := sMul_spec ha hb h
      exact s_int (n := a.eval θ * b.eval θ) (by simp [binOp, Op.intArith]) h1 h2 h3
  case quo =>
    injection hf with hf; subst hf
    refine orF_ok (orF_ok (intF_ok (fun k a b v h => ?_) noF_ok) (symF_ok fun k a b v ha hb h => ?_)) (ivF_ok fun k a b c d m n v h1 h2 h3 h4 h => ivQuo_ok h1 h2 h3 h4 h)
    · unfold bQuo at h
      rw [bsel_eq] at h
      split at h
      · cases h
      · rename_i hb
        rw [intEq_eq, beq_iff_eq] at hb
        exact g2_int (n := k.wrap (a.tdiv b)) (by simp [binOp, Op.intDiv, hb]) (wInt_spec h)
    · obtain ⟨d, e1, e2, e3⟩ := sDiv_spec (θ := θ) (g := fun d => seQuo d a) h
      obtain ⟨q1, q2, q3, q4, q5, q6, q7⟩ := divOk_spec ha e2
      obtain ⟨r1, r2⟩ := div_of q1 q2 q5 q6 q7
      refine s_int (n := (a.eval θ).tdiv (b.eval θ)) ?_ q3 (by rw [e1, r1]) e3
      have : ¬ d = 0 := by omega
      simp [binOp, Op.intDiv, e1, this]
  case rem =>
    injection hf with hf; subst hf
    refine orF_ok (orF_ok (intF_ok (fun k a b v h => ?_) noF_ok) (symF_ok fun k a b v ha hb h => ?_)) (ivF_ok fun k a b c d m n v h1 h2 h3 h4 h => ivRem_ok h1 h3 h4 h)
    · unfold bRem at h
      rw [bsel_eq] at h
      split at h
      · cases h
      · rename_i hb
        rw [intEq_eq, beq_iff_eq] at hb
        injection h with h
        exact g2_int (n := a.tmod b) (by simp [binOp, Op.intDiv, hb]) h.symm
    · obtain ⟨d, e1, e2, e3⟩ := sDiv_spec (θ := θ) (g := fun d => seRem d a) h
      obtain ⟨q1, q2, q3, q4, q5, q6, q7⟩ := divOk_spec ha e2
      obtain ⟨r1, r2⟩ := div_of q1 q2 q5 q6 q7
      obtain ⟨h1, h2⟩ := mkS_ok (ρ := ρ) q4 e3
      refine ⟨_, ?_, h2⟩
      have : ¬ d = 0 := by omega
      simp [binOp, Op.intDiv, e1, this, r2]
  case eql =>
    refine eqOf_ok (neg := false) hf (fun k a b v h => g2_bool (c := a == b) (by simp [binOp, Op.intCmp]) (by injection h with h; rw [← h, intEq_eq])) fun k a b v ha hb h => ?_
    obtain ⟨c, hc, rfl⟩ := sBool_spec h
    have := seEq_ok ha hb hc
    exact g2_bool (c := c) (by simp [binOp, Op.intCmp]; exact this) rfl
  case neq =>
    refine eqOf_ok (neg := true) hf (fun k a b v h => g2_bool (c := a != b) (by simp [binOp, Op.intCmp]) (by injection h with h; rw [← h, intEq_eq]; rfl)) fun k a b v ha hb h => ?_
    obtain ⟨c, hc, rfl⟩ := sBool_spec h
    have := seEq_ok ha hb hc
    refine g2_bool (c := !c) ?_ rfl
    rw [← this]; simp [binOp, Op.intCmp]; rfl
  case lss =>
    injection hf with hf; subst hf
    refine orF_ok (intF_ok (fun k a b v h => g2_bool (c := decide (a < b)) (by simp [binOp, Op.intCmp]) (by injection h with h; rw [← h, intLt_eq])) (strF_ok fun x y v hx hy h => ?_)) (orF_ok (symF_ok fun k a b v ha hb h => ?_) (ivF_ok fun k a b c d m n v h1 h2 h3 h4 h => ?_))
    · obtain ⟨c, hc, rfl⟩ := obool_spec h
      have := strLt_sound hx hy hc
      exact ⟨.bool c, by simp [binOp, Op.stringOp, strOf_toList, this], rfl⟩
    · obtain ⟨c, hc, rfl⟩ := sBool_spec h
      have := seLt_ok ha hb hc
      exact g2_bool (c := c) (by simp only [binOp, Op.intCmp, ne_eq, not_true_eq_false, if_false, Sem.run_pure]; rw [← this]) rfl
    · obtain ⟨c, hc, rfl⟩ := ivBool_spec h
      have := ivLt_ok hc h1 h2 h3 h4
      exact g2_bool (c := c) (by simp only [binOp, Op.intCmp, ne_eq, not_true_eq_false, if_false, Sem.run_pure]; rw [← this]) rfl
  case leq =>
    injection hf with hf; subst hf
    refine orF_ok (intF_ok (fun k a b v h => g2_bool (c := decide (a ≤ b)) (by simp [binOp, Op.intCmp]) (by injection h with h; rw [← h, intLt_eq, not_lt_dec])) (strF_ok fun x y v hx hy h => ?_)) (orF_ok (symF_ok fun k a b v ha hb h => ?_) (ivF_ok fun k a b c d m n v h1 h2 h3 h4 h => ?_))
    · obtain ⟨c, hc, rfl⟩ := obool_spec h
      have h1 := strLt_sound hy hx hc
      refine ⟨.bool (!c), ?_, rfl⟩
      have := bytesLess_total (x.map (byteV θ)) (y.map (byteV θ))
      simp only [binOp, Op.stringOp, strOf_toList, Sem.run_pure]
      rw [this, h1]
    · obtain ⟨c, hc, rfl⟩ := sBool_spec h
      have := seLt_ok hb ha hc
      refine g2_bool (c := !c) ?_ rfl
      rw [← this]; simp only [binOp, Op.intCmp, ne_eq, not_true_eq_false, if_false, Sem.run_pure, not_lt_dec]
    · obtain ⟨c, hc, rfl⟩ := ivBool_spec h
      have := ivLt_ok hc h3 h4 h1 h2
      refine g2_bool (c := !c) ?_ rfl
      rw [← this]; simp only [binOp, Op.intCmp, ne_eq, not_true_eq_false, if_false, Sem.run_pure, not_lt_dec]
  case gtr =>
    injection hf with hf; subst hf
    refine orF_ok (intF_ok (fun k a b v h => g2_bool (c := decide (a > b)) (by simp [binOp, Op.intCmp]) (by injection h with h; rw [← h, intLt_eq])) (strF_ok fun x y v hx hy h => ?_)) (orF_ok (symF_ok fun k a b v ha hb h => ?_) (ivF_ok fun k a b c d m n v h1 h2 h3 h4 h => ?_))
    · obtain ⟨c, hc, rfl⟩ := obool_spec h
      have h1 := strLt_sound hy hx hc
      refine ⟨.bool c, ?_, rfl⟩
      have := bytesLess_total (x.map (byteV θ)) (y.map (byteV θ))
      simp only [binOp, Op.stringOp, strOf_toList, Sem.run_pure]
      rw [this, h1, Bool.not_not]
    · obtain ⟨c, hc, rfl⟩ := sBool_spec h
      have := seLt_ok hb ha hc
      exact g2_bool (c := c) (by simp only [binOp, Op.intCmp, ne_eq, not_true_eq_false, if_false, Sem.run_pure]; rw [← this]) rfl
    · obtain ⟨c, hc, rfl⟩ := ivBool_spec h
      have := ivLt_ok hc h3 h4 h1 h2
      exact g2_bool (c := c) (by simp only [binOp, Op.intCmp, ne_eq, not_true_eq_false, if_false, Sem.run_pure]; rw [← this]) rfl
  case geq =>
    injection hf with hf; subst hf
    refine orF_ok (intF_ok (fun k a b v h => g2_bool (c := decide (a ≥ b)) (by simp [binOp, Op.intCmp]) (by injection h with h; rw [← h, intLt_eq, not_lt_dec])) (strF_ok fun x y v hx hy h => ?_)) (orF_ok (symF_ok fun k a b v ha hb h => ?_) (ivF_ok fun k a b c d m n v h1 h2 h3 h4 h => ?_))
    · obtain ⟨c, hc, rfl⟩ := obool_spec h
      have h1 := strLt_sound hx hy hc
      exact ⟨.bool (!c), by simp [binOp, Op.stringOp, strOf_toList, h1], rfl⟩
    · obtain ⟨c, hc, rfl⟩ := sBool_spec h
      have := seLt_ok ha hb hc
      refine g2_bool (c := !c) ?_ rfl
      rw [← this]; simp only [binOp, Op.intCmp, ne_eq, not_true_eq_false, if_false, Sem.run_pure, not_lt_dec]
    · obtain ⟨c, hc, rfl⟩ := ivBool_spec h
      have := ivLt_ok hc h1 h2 h3 h4
      refine g2_bool (c := !c) ?_ rfl
      rw [← this]; simp only [binOp, Op.intCmp, ne_eq, not_true_eq_false, if_false, Sem.run_pure, not_lt_dec]
  case and =>
    injection hf with hf; subst hf
    exact intF_ok (fun k a b v h => g2_int (n := k.wrap (BitVec.ofInt k.bits a &&& BitVec.ofInt k.bits b).toNat) (by simp [binOp, Op.intBits]) (by injection h with h; exact h.symm)) noF_ok
  case or =>
    injection hf with hf; subst hf
    exact intF_ok (fun k a b v h => g2_int (n := k.wrap (BitVec.ofInt k.bits a ||| BitVec.ofInt k.bits b).toNat) (by simp [binOp, Op.intBits]) (by injection h with h; exact h.symm)) noF_ok
  case xor =>
    injection hf with hf; subst hf
    exact intF_ok (fun k a b v h => g2_int (n := k.wrap (BitVec.ofInt k.bits a ^^^ BitVec.ofInt k.bits b).toNat) (by simp [binOp, Op.intBits]) (by injection h with h; exact h.symm)) noF_ok
  case andNot =>
    injection hf with hf; subst hf
    exact intF_ok (fun k a b v h => g2_int (n := k.wrap (BitVec.ofInt k.bits a &&& ~~~ BitVec.ofInt k.bits b).toNat) (by simp [binOp, Op.intBits]) (by injection h with h; exact h.symm)) noF_ok
  case shl =>
    injection hf with hf; subst hf
    refine shiftF_ok fun k j a b v h => ?_
    unfold bShl at h
    split at h
    · rename_i m
      refine ⟨.int k (k.wrap (a * 2 ^ (min m k.bits))), ?_, by rw [wInt_spec h]; rfl⟩
      have : ¬ ((m : Int) < 0) := by omega
      simp only [binOp, Op.shift, Int.ofNat_eq_natCast, if_neg this, Int.toNat_natCast, Sem.run_pure]
    · cases h
  case shr =>
    injection hf with hf; subst hf
    refine shiftF_ok fun k j a b v h => ?_
    unfold bShr at h
    split at h
    · rename_i m
      injection h with h; subst h
      refine ⟨.int k (a.fdiv (2 ^ (min m k.bits))), ?_, rfl⟩
      have : ¬ ((m : Int) < 0) := by omega
      simp only [binOp, Op.shift, Int.ofNat_eq_natCast, if_neg this, Int.toNat_natCast, Sem.run_pure]
    · cases h
end Go.Ev
end

section
set_option autoImplicit false
namespace Go.Ev
variable {θ : Nat → Int} {P : Program} {ρ : Ro} {h : Heap} {w : World}

theorem unF_ok {op : UnOp} {u v : V} {x : Value} (hu : VRel θ ρ u x) (hv : unF op u = some v) : ∃ y, (Op.unary op x).run P w = .ok y w ∧ VRel θ ρ v y := by
  unfold unF at hv
  split at hv
  · rename_i b
    obtain rfl := vrel_bool hu
    injection hv with hv; subst hv
    exact ⟨.bool (!b), by simp [Op.unary], rfl⟩
  · rename_i k a
    obtain rfl := vrel_int hu
    refine ⟨.int k (k.wrap (0 - a)), by simp [Op.unary, Op.intArith], ?_⟩
    rw [wInt_spec hv, iSub_eq]; rfl
  · rename_i k e
    obtain ⟨he, rfl⟩ : e.Ok θ ∧ x = .int k (e.eval θ) := hu
    obtain ⟨h1, h2⟩ := seScl_ok (-1) he
    obtain ⟨h3, h4⟩ := mkS_ok (ρ := ρ) h1 hv
    refine ⟨_, ?_, h4⟩
    rw [h2] at h3 ⊢
    have e0 : (0 : Int) - e.eval θ = -1 * e.eval θ := by omega
    simp only [Op.unary, Op.intArith, Sem.run_pure, e0, h3]
  · rename_i k a
    obtain rfl := vrel_int hu
    injection hv with hv; subst hv
    refine ⟨.int k (k.wrap (BitVec.ofInt k.bits (if k.signed = true then -1 else k.max) ^^^ BitVec.ofInt k.bits a).toNat), by simp only [Op.unary, Op.intBits, Sem.run_pure], ?_⟩
    cases k <;> rfl
  · cases hv

theorem bytes_loop (f : Value → ByteArray → Sem (ForInStep ByteArray)) (hf : ∀ n r, f (.int .u8 n) r = pure (.yield (r.push (UInt8.ofNat n.toNat)))) : ∀ (l : List V) (ys : List Value) (acc : ByteArray), All2 (CRel θ ρ) l ys →
    (∀ u ∈ l, ByteOk θ u ∧ ∀ y, CRel θ ρ u y → y = .int .u8 (byteN θ u)) → (forIn (m := Sem) ys acc f).run P w = .ok ⟨acc.data ++ (l.map (byteV θ)).toArray⟩ w := by
  intro l
  induction l with
  | nil => intro ys acc t _; cases t; simp
  | cons u l ih =>
    intro ys acc t hok
    cases t with
    | cons hr t =>
      obtain ⟨hb, hy⟩ := hok u List.mem_cons_self
      obtain rfl := hy _ hr
      simp only [List.forIn_cons, hf, Sem.run_bind, Sem.run_pure, Result.andThen_ok]
      rw [ih _ _ t fun u hu => hok u (List.mem_cons_of_mem _ hu)]
      simp [(byteN_ok hb).1, ByteArray.push]

theorem isByte_ok {u : V} (h : isByte u = true) {y : Value} (hy : CRel θ ρ u y) : ByteOk θ u ∧ ∀ y, CRel θ ρ u y → y = .int .u8 (byteN θ u) := by
  unfold isByte at h
  split at h
  · obtain ⟨_, h1, h2⟩ := u8_of_inRange h
    exact ⟨⟨h1, h2⟩, fun y hy => hy⟩
  · rename_i e
    rw [band_eq, Bool.and_eq_true] at h
    obtain ⟨he, _⟩ : e.Ok θ ∧ _ := hy
    have l1 := seLo_ok he
    have l2 := seHi_ok he
    obtain ⟨_, a1, _⟩ := u8_of_inRange h.1
    obtain ⟨_, _, b2⟩ := u8_of_inRange h.2
    exact ⟨⟨he, by omega, by omega⟩, fun y hy => hy.2⟩
  · cases h
theorem conv_bytes {src dst e : TypeId} {q o n : Nat} {cap : Nat} {cs : List V} {xs : List Value} (hd : P.underlying dst = some .string) (hs : P.underlying src = some (.slice e)) (he : P.underlying e = some (.int .u8))
    (hl : cs.length = n) (lies : Lies θ ρ w q o cs xs) (hall : cs.all isByte = true) :
    ∃ y, (convert src dst (.slice (some ⟨q, o, none⟩) n cap)).run P w = .ok y w ∧ VRel θ ρ (.str n cs) y := by
  have hrun := run_loadCells_lies (P := P) lies
  rw [hl] at hrun
  have hok : ∀ u ∈ cs, ByteOk θ u ∧ ∀ y, CRel θ ρ u y → y = .int .u8 (byteN θ u) := by
    intro u hu
    obtain ⟨i, hi⟩ := List.getElem?_of_mem hu
    obtain ⟨y, _, hy⟩ := lies.rel.get hi
    exact isByte_ok (List.all_eq_true.1 hall u hu) hy
  refine ⟨.string (strOf θ cs), ?_, hl, fun u hu => (hok u hu).1, rfl⟩
  simp only [convert, Sem.run_bind, run_underlying hd, run_underlying hs, run_underlying he, Result.andThen_ok, Conv.bytesToString, hrun]
  rw [← Array.forIn_toList]
  refine (congrArg (fun r => Result.andThen r _) (bytes_loop _ (fun _ _ => rfl) cs xs .empty lies.rel hok)).trans ?_
  show Result.ok (Value.string ⟨(#[] : Array UInt8) ++ (cs.map (byteV θ)).toArray⟩) w = _
  simp [strOf]

theorem convF_ok {src dst : TypeId} {f : Heap → V → Option V} {u v : V} {x : Value} (hf : convF P src dst = .mk f) (hr : HRel θ ρ h w) (hu : VRel θ ρ u x) (hv : f h u = some v) :
    ∃ y, (convert src dst x).run P w = .ok y w ∧ VRel θ ρ v y := by
  unfold convF at hf
  split at hf
  · rename_i k hd
    split at hf
    · rename_i hs
      injection hf with hf; subst hf
      unfold convInt at hv
      split at hv
      · rename_i j n
        obtain rfl := vrel_int hu
        injection hv with hv; subst hv
        refine ⟨.int k (k.wrap n), ?_, by rw [wrapA_eq]; rfl⟩
        simp [convert, run_underlying hd, run_underlying hs, Conv.intToInt]
      · rename_i j e
        obtain ⟨he, rfl⟩ : e.Ok θ ∧ x = .int j (e.eval θ) := hu
        obtain ⟨h3, h4⟩ := mkS_ok (ρ := ρ) he hv
        refine ⟨_, ?_, h4⟩
        simp [convert, run_underlying hd, run_underlying hs, Conv.intToInt, h3]
      · rename_i j lo hi
        obtain ⟨n, n1, n2, rfl⟩ : ∃ n, lo ≤ n ∧ n ≤ hi ∧ x = .int j n := hu
        obtain ⟨h3, h4⟩ := mkIv_ok (ρ := ρ) (θ := θ) hv n1 n2
        refine ⟨_, ?_, h4⟩
        simp [convert, run_underlying hd, run_underlying hs, Conv.intToInt, h3]
      · cases hv
    · cases hf
  · rename_i hd
    split at hf
    · rename_i e hs
      split at hf
      · rename_i he
        injection hf with hf; subst hf
        unfold convBytes at hv
        split at hv
        · injection hv with hv; subst hv
          obtain rfl : x = .slice none 0 0 := hu
          refine ⟨.string .empty, ?_, rfl, by simp, rfl⟩
          simp [convert, run_underlying hd, run_underlying hs, run_underlying he, Conv.bytesToString]
        · obtain ⟨a, rfl⟩ : ∃ a, x = .slice (some a) 0 0 := hu
          injection hv with hv; subst hv
          refine ⟨.string .empty, ?_, rfl, by simp, rfl⟩
          simp [convert, run_underlying hd, run_underlying hs, run_underlying he, Conv.bytesToString, loadCells, loadCellsFrom]
        · rename_i l n
          split at hv
          · rename_i cs hrd
            obtain ⟨hall, hv⟩ := bsel_bad_opt hv
            injection hv with hv; subst hv
            obtain ⟨q, o, cap, c, rfl, _, hq, hz⟩ := crel_fz hu
            obtain ⟨xs, hl, lies⟩ := lies_of_take hr hq hz hrd
            exact conv_bytes hd hs he hl lies hall
          · cases hv
        · rename_i b off n cap
          split at hv
          · rename_i c len tl hb
            split at hv
            · rename_i cs hrd
              obtain ⟨hall, hv⟩ := bsel_bad_opt hv
              injection hv with hv; subst hv
              obtain ⟨p, hp, rfl⟩ := vrel_slice hu
              obtain ⟨p', xs, hp', hl, lies⟩ := lies_of_rd (hr.obj _ _ _ hb (by assumption)) hrd
              rw [hp] at hp'; injection hp' with hp'; subst hp'
              exact conv_bytes hd hs he hl lies hall
            · cases hv
          · cases hv
        · cases hv
      · cases hf
    · rename_i hs
      injection hf with hf; subst hf
      unfold convStr at hv
      split at hv
      · injection hv with hv; subst hv
        obtain ⟨hn, hb, rfl⟩ := vrel_str hu
        exact ⟨_, by simp [convert, run_underlying hd, run_underlying hs], hn, hb, rfl⟩
      · cases hv
    · cases hf
  · cases hf

/-! ### slices -/
theorem getD_spec {o : Option Nat} {n : Nat} : o.getD n = match o with | some m => m | none => n := by cases o <;> rfl
/-- a bound in the model -/
def bound (o : Option Nat) : Option Value := o.map fun n => .int .i64 (n : Int)

/-- the bounds of a slice expression: what the model makes of literal bounds -/
theorem run_sliceBound {k : IntKind} {n y : Nat} (hn : n ≤ y) (code : BoundsCode) : (Instr.sliceBound (.int k (n : Int)) y code).run P w = .ok n w := by
  have hc : (0 : Int) ≤ (n : Int) ∧ (n : Int) ≤ (y : Int) := by omega
  simp only [Instr.sliceBound, asIntOf, Sem.run_bind, Sem.run_pure, Result.andThen_ok, if_pos hc, Int.toNat_natCast]

/-- a bound's operand -/
def BRel (o : Option Nat) (x : Option Value) : Prop := match o, x with
  | none, none => True
  | some n, some v => ∃ k, v = .int k (n : Int)
  | _, _ => False

theorem run_sliceBounds {isSl : Bool} {len cap : Nat} {lo hi mx : Option Nat} {xl xh xm : Option Value} (hl : BRel lo xl) (hh : BRel hi xh) (hm : BRel mx xm)
    (hmx : mx.getD cap ≤ cap) (hhm : hi.getD len ≤ mx.getD cap) (hlh : lo.getD 0 ≤ hi.getD len) (hno : mx.isSome = true → hi.isSome = true) :
    (Instr.sliceBounds isSl len cap xl xh xm).run P w = .ok (lo.getD 0, hi.getD len, mx.getD cap) w := by
  unfold Instr.sliceBounds
  cases lo <;> cases xl <;> simp only [BRel] at hl <;> cases hi <;> cases xh <;> simp only [BRel] at hh <;> cases mx <;> cases xm <;> simp only [BRel] at hm <;>
    simp only [Option.getD_some, Option.getD_none, Option.isSome_some, Option.isSome_none] at hmx hhm hlh hno ⊢
  all_goals (try (exact absurd (hno trivial) Bool.false_ne_true))
  all_goals (try obtain ⟨k1, rfl⟩ := hl)
  all_goals (try obtain ⟨k2, rfl⟩ := hh)
  all_goals (try obtain ⟨k3, rfl⟩ := hm)
  all_goals simp only [Sem.run_bind, Sem.run_pure, Result.andThen_ok, run_sliceBound hmx, run_sliceBound hhm, run_sliceBound hlh]

theorem cap_of_exact (p : Pl) (n : Nat) : ACap.of p (.exact n) = n := rfl
theorem opt_add (b o l s : Nat) : Option.map (fun a : Addr => a.add (l * s)) (some ⟨b, o, none⟩) = some ⟨b, o + l * s, none⟩ := by simp [addr_add]
/-! ### the slice operations -/
/-- what a slice expression must come to -/
def SlOk (θ : Nat → Int) (P : Program) (ρ : Ro) (h : Heap) (w : World) (t : TypeId) (f : SlT) : Prop :=
  ∀ u v x lo hi mx xl xh xm, VRel θ ρ u x → BRel lo xl → BRel hi xh → BRel mx xm → (mx.isSome = true → hi.isSome = true) → f h u lo hi mx = some v →
    ∃ y, (Instr.sliceAt t x xl xh xm).run P w = .ok y w ∧ VRel θ ρ v y

theorem strOf_extract (s : List V) (l n : Nat) : (strOf θ s).extract l n = strOf θ ((s.drop l).take (n - l)) := by
  have : ∀ x y : ByteArray, x.data.toList = y.data.toList → x = y := fun x y e => by cases x; cases y; congr 1; exact Array.ext' e
  apply this
  rw [ByteArray.data_extract, Array.toList_extract]
  simp [strOf, List.extract]

theorem sliceStr_ok {t : TypeId} (hu : P.underlying t = some .string) : SlOk θ P ρ h w t sliceStr := by
  intro u v x lo hi mx xl xh xm hr hl hh hm hno hv
  unfold sliceStr at hv
  split at hv
  · rename_i n s
    obtain ⟨h1, h2⟩ := bsel_bad_opt hv
    simp only [band_eq, Bool.and_eq_true, nble_iff, decide_eq_true_eq] at h1
    injection h2 with h2; subst h2
    obtain ⟨hn, hb, rfl⟩ := vrel_str hr
    have hsz : (strOf θ s).size = n := by rw [strOf_size, hn]
    have hxm : xm = none := by cases xm with
      | none => rfl
      | some _ => exact hm.elim
    subst hxm
    refine ⟨.string ((strOf θ s).extract (lo.getD 0) (hi.getD n)), ?_, ?_⟩
    · have := run_sliceBounds (P := P) (w := w) (isSl := false) (len := n) (cap := n) hl hh hm (Nat.le_refl _) h1.1 h1.2 hno
      simp [Instr.sliceAt, run_underlying hu, Instr.slice, hsz, this]
    · rw [strOf_extract, takeV_eq, dropV_eq]
      refine ⟨by simp; omega, fun u hu => hb u (List.mem_of_mem_drop (List.mem_of_mem_take hu)), rfl⟩
  · cases hv

theorem sliceArr_ok {t e : TypeId} {n s : Nat} (hu : P.underlying t = some (.array n e)) (hs : szOf P e = some s) : SlOk θ P ρ h w t (sliceArr n s) := by
  intro u v x lo hi mx xl xh xm hr hl hh hm hno hv
  unfold sliceArr at hv
  split at hv
  · rename_i b off
    obtain ⟨h1, h2⟩ := bsel_bad_opt hv
    simp only [band_eq, Bool.and_eq_true, nble_iff, decide_eq_true_eq] at h1
    injection h2 with h2; subst h2
    obtain ⟨p, hp, rfl⟩ := vrel_ptr hr
    have := run_sliceBounds (P := P) (w := w) (isSl := false) (len := n) (cap := n) hl hh hm (Nat.le_refl _) h1.1 h1.2 hno
    refine ⟨.slice (some (if n = lo.getD 0 then ⟨p.blk, p.base + off, none⟩ else ⟨p.blk, p.base + off + lo.getD 0 * s, none⟩)) (hi.getD n - lo.getD 0) (n - lo.getD 0), ?_, p, hp, ?_⟩
    · simp only [Instr.sliceAt, Sem.run_bind, run_underlying hu, Result.andThen_ok, Instr.sureAddr, Sem.run_pure, this, run_sizeOf hs, addr_add]
      rfl
    · rw [nbeq_iff, bsel_eq]
      by_cases e : n = lo.getD 0
      · simp only [e, decide_true, if_true]; rfl
      · simp only [e, decide_false, Bool.false_eq_true, if_false]
        rw [Nat.add_assoc]; rfl
  · cases hv

theorem sliceSlT_ok {t e : TypeId} {s : Nat} (hu : P.underlying t = some (.slice e)) (hs : szOf P e = some s) (hr0 : HRel θ ρ h w) : SlOk θ P ρ h w t (sliceSlT s) := by
  intro u v x lo hi mx xl xh xm hr hl hh hm hno hv
  unfold sliceSlT at hv
  split at hv
  · obtain ⟨h1, h2⟩ := bsel_bad_opt hv
    simp only [band_eq, Bool.and_eq_true, nbeq_iff, decide_eq_true_eq] at h1
    injection h2 with h2; subst h2
    obtain rfl : x = .slice none 0 0 := hr
    have := run_sliceBounds (P := P) (w := w) (isSl := true) (len := 0) (cap := 0) hl hh hm (by omega) (by omega) (by omega) hno
    refine ⟨.slice none 0 0, ?_, rfl⟩
    simp [Instr.sliceAt, run_underlying hu, Instr.slice, this, run_sizeOf hs, h1]
  · obtain ⟨h1, h2⟩ := bsel_bad_opt hv
    simp only [band_eq, Bool.and_eq_true, nbeq_iff, decide_eq_true_eq] at h1
    injection h2 with h2; subst h2
    obtain ⟨a, rfl⟩ : ∃ a, x = .slice (some a) 0 0 := hr
    have := run_sliceBounds (P := P) (w := w) (isSl := true) (len := 0) (cap := 0) hl hh hm (by omega) (by omega) (by omega) hno
    refine ⟨.slice (some a) 0 0, ?_, a, rfl⟩
    simp [Instr.sliceAt, run_underlying hu, Instr.slice, this, run_sizeOf hs, h1]
  · rename_i l n
    obtain ⟨q, o, cap, c, rfl, hcap, hq, hz⟩ := crel_fz hr
    split at hv
    · unfold sliceFz at hv
      obtain ⟨h1, h2⟩ := bsel_bad_opt hv
      simp only [band_eq, Bool.and_eq_true, nble_iff, decide_eq_true_eq] at h1
      obtain ⟨r, h3, h4⟩ := ob_eq_some h2
      injection h4 with h4; subst h4
      rw [dropV_eq] at h3
      obtain ⟨h5, h6⟩ := takeO_eq _ _ _ h3
      have := run_sliceBounds (P := P) (w := w) (isSl := true) (len := n) (cap := cap) (mx := none) hl hh hm (Nat.le_refl _) (by show hi.getD n ≤ cap; omega) h1.2 hno
      have hz' : ∀ o', (cap = lo.getD 0 ∨ o' = o + lo.getD 0 * s) → ZRels θ ρ.fz r c o' := fun o' ho => by
        rcases ho with ho | ho
        · have : r = [] := by
            rw [h6]
            have : hi.getD n - lo.getD 0 = 0 := by omega
            simp [this]
          rw [this]; simp only [ZRels]
        · rw [ho, h6]
          exact zrels_take _ (zrels_drop _ hz)
      refine ⟨.slice (some ⟨q, if cap = lo.getD 0 then o else o + lo.getD 0 * s, none⟩) (hi.getD n - lo.getD 0) (cap - lo.getD 0), ?_, crel_vrel (crel_fz_mk (by omega) hq (hz' _ ?_))⟩
      · simp only [Instr.sliceAt, Sem.run_bind, run_underlying hu, Result.andThen_ok, Instr.slice, this, run_sizeOf hs, opt_add, Option.getD_none]
        by_cases e : cap = lo.getD 0
        · simp only [e, if_true]; rfl
        · simp only [e, if_false]; rfl
      · by_cases e : cap = lo.getD 0
        · exact .inl e
        · exact .inr (by simp only [e, if_false])
    · rename_i m
      obtain ⟨h1, h2⟩ := bsel_bad_opt hv
      simp only [band_eq, Bool.and_eq_true, nbeq_iff, nble_iff, decide_eq_true_eq] at h1
      rw [bsel_eq] at h2
      split at h2
      · rename_i h3
        rw [nbeq_iff, decide_eq_true_iff] at h3
        injection h2 with h2; subst h2
        have := run_sliceBounds (P := P) (w := w) (isSl := true) (len := n) (cap := cap) hl hh hm (by show m ≤ cap; omega) (by show hi.getD n ≤ m; omega) (by omega) hno
        refine ⟨.slice (some ⟨q, o, none⟩) 0 0, ?_, _, rfl⟩
        simp only [Instr.sliceAt, Sem.run_bind, run_underlying hu, Result.andThen_ok, Instr.slice, this, run_sizeOf hs, opt_add, Option.getD_some, h1.2, h3, Nat.sub_self, if_true]
        rfl
      · rename_i h3
        rw [nbeq_iff, decide_eq_true_iff] at h3
        obtain ⟨h4, h5⟩ := bsel_bad_opt h2
        rw [nbeq_iff, decide_eq_true_iff] at h4
        obtain ⟨r, h6, h7⟩ := ob_eq_some h5
        injection h7 with h7; subst h7
        obtain ⟨h8, h9⟩ := takeO_eq _ _ _ h6
        have := run_sliceBounds (P := P) (w := w) (isSl := true) (len := n) (cap := cap) hl hh hm (by show m ≤ cap; omega) (by show hi.getD n ≤ m; omega) (by omega) hno
        refine ⟨.slice (some ⟨q, o, none⟩) m m, ?_, crel_vrel (crel_fx_mk hq (by rw [h9]; exact zrels_take _ hz))⟩
        have hm0 : ¬ m = 0 := by omega
        simp only [Instr.sliceAt, Sem.run_bind, run_underlying hu, Result.andThen_ok, Instr.slice, this, run_sizeOf hs, opt_add, Option.getD_some, h1.2, h4, Nat.sub_zero, hm0, if_false, Nat.zero_mul, Nat.add_zero]
        rfl
  · rename_i b off len c
    obtain ⟨h1, h2⟩ := bsel_bad_opt hv
    simp only [band_eq, Bool.and_eq_true, nble_iff, decide_eq_true_eq] at h1
    injection h2 with h2; subst h2
    obtain ⟨p, hp, rfl⟩ := vrel_slice hr
    have := run_sliceBounds (P := P) (w := w) (isSl := true) (len := len) (cap := c) hl hh hm h1.1 h1.2.1 h1.2.2 hno
    refine ⟨.slice (if mx.getD c = lo.getD 0 then some ⟨p.blk, p.base + off, none⟩ else some ⟨p.blk, p.base + off + lo.getD 0 * s, none⟩) (hi.getD len - lo.getD 0) (mx.getD c - lo.getD 0), ?_, p, hp, ?_⟩
    · simp only [Instr.sliceAt, Sem.run_bind, run_underlying hu, Result.andThen_ok, Instr.slice, cap_of_exact, this, run_sizeOf hs, opt_add]
      rfl
    · rw [nbeq_iff, bsel_eq]
      by_cases e : mx.getD c = lo.getD 0
      · simp only [e, decide_true, if_true]; rfl
      · simp only [e, decide_false, Bool.false_eq_true, if_false]
        rw [Nat.add_assoc]; rfl
  · rename_i b off len k
    split at hv
    · rename_i c cl sz hb
      obtain ⟨h1, h2⟩ := bsel_bad_opt hv
      simp only [band_eq, Bool.and_eq_true, nbeq_iff, nble_iff, decide_eq_true_eq] at h1
      obtain ⟨hsz, hoff, hlh⟩ := h1
      obtain ⟨p, hp, rfl⟩ := vrel_slice hr
      obtain ⟨p', hp', hcl, arr, ty, fr, harr, hfr, hbs, hcell, h0, hcap, hroom⟩ := hr0.obj _ _ _ hb (by assumption)
      rw [hp] at hp'; injection hp' with hp'; subst hp'
      have hs0 : 0 < s := by omega
      have key : ∀ m, off + m * s ≤ cl → k + m ≤ p.cap := fun m hm => by
        have h3 : (k + m) * s ≤ p.cap * s := by rw [Nat.add_mul, ← hoff]; rw [hsz] at hcap; omega
        exact Nat.le_of_mul_le_mul_right h3 hs0
      split at h2
      · rename_i m
        obtain ⟨h3, h4⟩ := bsel_bad_opt h2
        simp only [band_eq, Bool.and_eq_true, nble_iff, decide_eq_true_eq] at h3
        injection h4 with h4; subst h4
        have hk := key m h3.2
        have := run_sliceBounds (P := P) (w := w) (isSl := true) (len := len) (cap := p.cap - k) hl hh hm (by show m ≤ _; omega) h3.1 hlh hno
        refine ⟨.slice (if m = lo.getD 0 then some ⟨p.blk, p.base + off, none⟩ else some ⟨p.blk, p.base + off + lo.getD 0 * s, none⟩) (hi.getD len - lo.getD 0) (m - lo.getD 0), ?_, p, hp, ?_⟩
        · simp only [Instr.sliceAt, Sem.run_bind, run_underlying hu, Result.andThen_ok, Instr.slice, ACap.of, this, run_sizeOf hs, opt_add]
          rfl
        · rw [nbeq_iff, bsel_eq]
          by_cases e : m = lo.getD 0
          · simp only [e, decide_true, if_true]; rfl
          · simp only [e, decide_false, Bool.false_eq_true, if_false]
            rw [Nat.add_assoc]; rfl
      · obtain ⟨h3, h4⟩ := bsel_bad_opt h2
        simp only [band_eq, bor_eq, Bool.and_eq_true, Bool.or_eq_true, nble_iff, nblt_iff, nbeq_iff, decide_eq_true_eq] at h3
        injection h4 with h4; subst h4
        have hk := key _ h3.1
        have := run_sliceBounds (P := P) (w := w) (isSl := true) (len := len) (cap := p.cap - k) hl hh hm (Nat.le_refl _) (by show hi.getD len ≤ p.cap - k; omega) hlh hno
        refine ⟨.slice (some ⟨p.blk, p.base + (off + lo.getD 0 * s), none⟩) (hi.getD len - lo.getD 0) (p.cap - (k + lo.getD 0)), ?_, p, hp, rfl⟩
        have hne : p.cap - k ≠ lo.getD 0 ∨ lo.getD 0 = 0 := by
          rcases h3.2 with h5 | h5 | h5
          · exact .inl (by omega)
          · exact .inr h5
          · have := key _ h5; exact .inl (by omega)
        simp only [Instr.sliceAt, Sem.run_bind, run_underlying hu, Result.andThen_ok, Instr.slice, ACap.of, this, run_sizeOf hs, opt_add, Option.getD_none]
        rcases hne with hne | hne
        · rw [if_neg hne, Nat.add_assoc, Nat.sub_sub]; rfl
        · simp only [hne, Nat.zero_mul, Nat.add_zero, Nat.sub_zero, ite_self]; rfl
    · cases hv
  · cases hv

end Go.Ev
end
