import Derived.Test.YtienogpnkkailaaGreatDoorEvH
import Derived.Test.YtienogpnkkailaaGreatDoorEvT
import Derived.Test.YtienogpnkkailaaGreatDoorRows
import Derived.Below
import Derived.WalkKit
import Derived.ProofKit
import Derived.Lay
import Derived.Lib.LaidU8
section
set_option autoImplicit false
set_option maxRecDepth 100000
namespace Go.Ev
open Go.Proofs

def isBadT : BT → Bool
  | .bad => true
  | .mk _ => false
theorem ext_cases : (List.range Tryz.prog.funcs.size).all (fun i => match Tryz.prog.funcs[i]? with
    | some fn => fn.body.isSome || isBadT (extF Tryz.prog fn) || Nat.beq i 171 || Nat.beq i 177 || Nat.beq i 359 || Nat.beq i 366
    | none => true) = true := by kernel_rfl
theorem seat_ext : ExtOk Tryz.prog := by
  intro f fn g hf hb hg
  have h := List.all_eq_true.1 ext_cases f (List.mem_range.2 (Array.getElem?_eq_some_iff.1 hf).1)
  rw [hf] at h
  simp only [hb, hg, Option.isSome_none, isBadT, Bool.false_or, Bool.or_eq_true, nbeq_iff, decide_eq_true_eq] at h
  rcases h with ((rfl | rfl) | rfl) | rfl
  · obtain rfl : fn = Tryz.f171 := (Option.some.inj (Tryz.func171.symm.trans hf)).symm
    exact ⟨by kernel_rfl, by kernel_rfl, .inr (.inr ⟨by kernel_rfl, by decide +kernel, by decide +kernel, by kernel_rfl⟩)⟩
  · obtain rfl : fn = Tryz.f177 := (Option.some.inj (Tryz.func177.symm.trans hf)).symm
    exact ⟨by kernel_rfl, by kernel_rfl, .inr (.inr ⟨by kernel_rfl, by decide +kernel, by decide +kernel, by kernel_rfl⟩)⟩
  · obtain rfl : fn = Tryz.f359 := (Option.some.inj (Tryz.func359.symm.trans hf)).symm
    exact ⟨by kernel_rfl, by kernel_rfl, .inl ⟨by kernel_rfl, by kernel_rfl⟩⟩
  · obtain rfl : fn = Tryz.f366 := (Option.some.inj (Tryz.func366.symm.trans hf)).symm
    exact ⟨by kernel_rfl, by kernel_rfl, .inr (.inl ⟨by kernel_rfl, by kernel_rfl⟩)⟩
theorem name_cases : (List.range Tryz.prog.funcs.size).all (fun i => match Tryz.prog.funcs[i]? with
    | some fn => !(fn.name == "runtime.NumGoroutine")
    | none => true) = true := by kernel_rfl
theorem name_ok : NameOk Tryz.prog := by
  intro f fn hf
  have h := List.all_eq_true.1 name_cases f (List.mem_range.2 (Array.getElem?_eq_some_iff.1 hf).1)
  rw [hf] at h
  simpa using h
theorem mixed : Tryz.prog.follows .mixedOrders = true := by kernel_rfl
noncomputable def callM (memo : Memo) : CallF := callN Tryz.prog ⟨gl, plT, kpT⟩ (bndPost bndT memo) 40
theorem callM_ok {θ : Nat → Int} {memo : Memo} (hm : MemoOk θ Tryz.prog gl memo) : CallOk θ Tryz.prog gl (callM memo) :=
  callN_ok seat_ext name_ok (draws_ok mixed) ⟨gl, plT, kpT⟩ (bnd_ok bndT hm) 40
end Go.Ev
end

section
set_option autoImplicit false
set_option maxRecDepth 100000
namespace Go.Ev
open Go.Proofs
/-! ### the listed variable -/
theorem strB_rel {θ : Nat → Int} {fz : Fz} (b : List UInt8) : ZRel θ fz (strB b) (.string ⟨b.toArray⟩) := by
  have h : absCell (.string ⟨b.toArray⟩) = some (strB b) := rfl
  have := absCell_rel (θ := θ) h ⟨fun _ => none, fz⟩
  exact this
theorem form_at {W : World} {fuel : Nat} {cs : List Value} {ds : List (DataW Unit)} {p : List MemPlace} (h : DataW.trod (fun _ => ()) Tryz.prog W 0 (fun _ => true) false fuel 263 cs = some (.agg ds, p)) {i : Nat} (hi : i < 13) {a b : List UInt8}
    (hd : ds[i]? = some (.agg [.lit (.string a), .lit (.string b)])) : cs[2 * i]? = some (.string ⟨a.toArray⟩) ∧ cs[2 * i + 1]? = some (.string ⟨b.toArray⟩) := by
  obtain ⟨fuel', d, q, h1, h2⟩ := Lib.array_elem Tryz.underlying263 h i hi
  rw [hd] at h1; injection h1 with h1; subst h1
  have c262 : Tryz.prog.cellsOf 262 = 2 := by kernel_rfl
  have c9 : Tryz.prog.cellsOf 9 = 1 := by kernel_rfl
  rw [c262] at h2
  obtain ⟨y0, y1, n, e1, e2, e3, e4⟩ := ChangeShapes.trod_struct2 Tryz.underlying262 h2
  simp only [c9] at e3 e4
  obtain ⟨d0, p0⟩ := y0
  obtain ⟨d1, p1⟩ := y1
  simp only [Prod.mk.injEq, DataW.agg.injEq, List.cons.injEq, and_true] at e1
  obtain ⟨⟨f1, f2⟩, _⟩ := e1
  subst f1; subst f2
  obtain ⟨s, g1, g2, _⟩ := DataW.trod_string Tryz.underlying9 e3
  obtain ⟨s', g3, g4, _⟩ := DataW.trod_string Tryz.underlying9 e4
  simp only [Prod.mk.injEq, DataW.lit.injEq, Lit.string.injEq] at g2 g4
  have key : ∀ (s : ByteArray) (l : List UInt8), l = s.data.toList → s = ⟨l.toArray⟩ := fun s l e => by cases s; subst e; rfl
  rw [key s a g2.1] at g1
  rw [key s' b g4.1] at g3
  constructor
  · have := congrArg (·[0]?) g1
    simpa [List.getElem?_take, List.getElem?_drop, Nat.mul_comm] using this
  · have := congrArg (·[0]?) g3
    simpa [List.getElem?_take, List.getElem?_drop, Nat.mul_comm] using this

/-- where a run begins: the memory that does not change: the package-level variable's block, and one more -/
noncomputable def ro0 (cs : Array Value) (q : Nat) (c : Array Value) : Ro := ⟨fun _ => none, fun k => if k = 0 then some cs else if k = q then some c else none⟩

theorem forms_cells {W : World} (h : Lib.VarReads Tryz.prog W "clusterkernel/code.forms" YtienogpnkkailaaGreatDoor.Rows.laid_clusterkernel_code_forms) :
    ∃ (cs : Array Value) (e : TypeId) (fr : Nat × Nat), W.heap[0]? = some (.cells cs e fr) ∧ ∀ (θ : Nat → Int) (fz : Fz), ZRels θ fz forms cs 0 := by
  obtain ⟨g, t, cs, fuel, p, hg, ht, hv, hd⟩ := h
  obtain rfl : g = 0 := (Option.some.inj ((show Tryz.prog.globalNamed "clusterkernel/code.forms" = some 0 by kernel_rfl).symm.trans hg)).symm
  obtain rfl : t = 263 := (Option.some.inj ((show (Tryz.prog.globals[0]?).map (·.type) = some 263 by kernel_rfl).symm.trans ht)).symm
  have hcell : ∃ e fr, W.heap[0]? = some (.cells cs e fr) := by
    simp only [World.var?, hg, Option.bind_some] at hv
    split at hv
    · rename_i c e fr hc
      injection hv with hv; subst hv
      exact ⟨e, fr, hc⟩
    · cases hv
  obtain ⟨e, fr, hc⟩ := hcell
  refine ⟨cs, e, fr, hc, fun θ fz => ?_⟩
  have at_ : ∀ (i : Nat) (a b : List UInt8), i < 13 → _ → cs.toList[2 * i]? = some (.string ⟨a.toArray⟩) ∧ cs.toList[2 * i + 1]? = some (.string ⟨b.toArray⟩) := fun i a b hi hds => form_at hd hi (a := a) (b := b) hds
  have two : ∀ (i : Nat) (a b : List UInt8), cs.toList[2 * i]? = some (.string ⟨a.toArray⟩) ∧ cs.toList[2 * i + 1]? = some (.string ⟨b.toArray⟩) →
      (∃ y, cs[2 * i]? = some y ∧ ZRel θ fz (strB a) y) ∧ (∃ y, cs[2 * i + 1]? = some y ∧ ZRel θ fz (strB b) y) := fun i a b h =>
    ⟨⟨_, by rw [← Array.getElem?_toList]; exact h.1, strB_rel a⟩, ⟨_, by rw [← Array.getElem?_toList]; exact h.2, strB_rel b⟩⟩
  have all : ∀ i, i < 13 → ∃ a b, formsB[2 * i]? = some a ∧ formsB[2 * i + 1]? = some b ∧ cs.toList[2 * i]? = some (.string ⟨a.toArray⟩) ∧ cs.toList[2 * i + 1]? = some (.string ⟨b.toArray⟩) := fun i hi => by
    match i, hi with
    | 0, h => exact ⟨_, _, rfl, rfl, at_ 0 _ _ h rfl⟩
    | 1, h => exact ⟨_, _, rfl, rfl, at_ 1 _ _ h rfl⟩
    | 2, h => exact ⟨_, _, rfl, rfl, at_ 2 _ _ h rfl⟩
    | 3, h => exact ⟨_, _, rfl, rfl, at_ 3 _ _ h rfl⟩
    | 4, h => exact ⟨_, _, rfl, rfl, at_ 4 _ _ h rfl⟩
    | 5, h => exact ⟨_, _, rfl, rfl, at_ 5 _ _ h rfl⟩
    | 6, h => exact ⟨_, _, rfl, rfl, at_ 6 _ _ h rfl⟩
    | 7, h => exact ⟨_, _, rfl, rfl, at_ 7 _ _ h rfl⟩
    | 8, h => exact ⟨_, _, rfl, rfl, at_ 8 _ _ h rfl⟩
    | 9, h => exact ⟨_, _, rfl, rfl, at_ 9 _ _ h rfl⟩
    | 10, h => exact ⟨_, _, rfl, rfl, at_ 10 _ _ h rfl⟩
    | 11, h => exact ⟨_, _, rfl, rfl, at_ 11 _ _ h rfl⟩
    | 12, h => exact ⟨_, _, rfl, rfl, at_ 12 _ _ h rfl⟩
  refine zrels_of fun j v hj => ?_
  have hjl : j < 26 := (List.getElem?_eq_some_iff.1 hj).1
  have hfm : forms[j]? = (formsB[j]?).map strB := List.getElem?_map ..
  obtain ⟨a, b, h1, h2, h3⟩ := all (j / 2) (by omega)
  obtain ⟨t1, t2⟩ := two _ a b h3
  rw [hfm] at hj
  rw [Nat.zero_add]
  rcases Nat.mod_two_eq_zero_or_one j with hm | hm
  · have e : j = 2 * (j / 2) := by omega
    rw [e, h1] at hj
    injection hj with hj; subst hj
    rw [e]; exact t1
  · have e : j = 2 * (j / 2) + 1 := by omega
    rw [e, h2] at hj
    injection hj with hj; subst hj
    rw [e]; exact t2
theorem start_ok {θ : Nat → Int} {W : World} {cs : Array Value} {e : TypeId} {fr : Nat × Nat} (hc : W.heap[0]? = some (.cells cs e fr)) (hz : ∀ (θ : Nat → Int) (fz : Fz), ZRels θ fz forms cs 0) {q : Nat} {c : Array Value}
    (hq : q ≠ 0 → ∃ e fr, W.heap[q]? = some (.cells c e fr)) : HRel θ (ro0 cs q c) emptyH W ∧ GOk θ gl (ro0 cs q c) := by
  refine ⟨⟨fun b p hp => (by cases hp), fun b o p ho => (by rw [emptyH_get] at ho; cases ho), fun a b p q o o' ho => (by rw [emptyH_get] at ho; cases ho), fun k z hk => ⟨?_, no_own _ _⟩⟩, fun g l hg => ?_⟩
  · change (if k = 0 then some cs else if k = q then some c else none) = some z at hk
    by_cases e0 : k = 0
    · rw [if_pos e0] at hk; injection hk with hk; subst hk
      exact ⟨e, fr, by rw [e0]; exact hc⟩
    · rw [if_neg e0] at hk
      by_cases e1 : k = q
      · rw [if_pos e1] at hk; injection hk with hk; subst hk
        rw [e1]; exact hq (fun e2 => e0 (by rw [e1, e2]))
      · rw [if_neg e1] at hk; cases hk
  · unfold gl at hg
    cases hb : Nat.beq g 0 with
    | false => rw [hb] at hg; cases hg
    | true =>
      rw [hb] at hg
      injection hg with hg; subst hg
      rw [nbeq_iff, decide_eq_true_iff] at hb; subst hb
      exact crel_fp_mk (c := cs) (by simp [ro0]) (hz _ _)

/-- the outcome is 'true' -/
def TrueOut : Out → Prop
  | .bad => False
  | .one v _ => v = .bool true
  | .many l => ∀ x ∈ l, x.1 = .bool true
theorem law_ok {θ : Nat → Int} {memo : Memo} (hm : MemoOk θ Tryz.prog gl memo) {f : FuncId} {vs : List V} {xs : List Value} {ρ : Ro} {W : World} (ho : TrueOut (callM memo f vs emptyH)) (hr : HRel θ ρ emptyH W) (hg : GOk θ gl ρ)
    (t : All2 (VRel θ ρ) vs xs) : Calls Tryz.prog f xs.toArray W fun e W' => e = .returned (.bool true) ∧ W.keptBut W' (fun _ => False) := by
  have hne : callM memo f vs emptyH ≠ .bad := by intro e; rw [e] at ho; exact ho
  obtain ⟨_, h2⟩ := callM_ok hm f vs emptyH ρ W xs hne hg hr t
  refine Calls.mono h2 fun e W' he => ?_
  cases e with
  | panicked _ => exact he.elim
  | outgrown => exact he.elim
  | returned x =>
    obtain ⟨v, h', ρ', hv, _, _, hx, hf⟩ := he
    have hvt : v = .bool true := by
      revert hv ho
      cases callM memo f vs emptyH with
      | bad => intro ho; exact ho.elim
      | one u g => rintro ho ⟨rfl, rfl⟩; exact ho
      | many l => intro ho hm; exact ho _ hm
    subst hvt
    have := vrel_bool hx
    subst this
    refine ⟨rfl, hf.io.1, hf.io.2, fun i hi => ?_⟩
    rw [(hf.keep i hi (no_own _ _)).1]
    split <;> simp_all
end Go.Ev
end

section
set_option autoImplicit false
set_option maxRecDepth 100000
namespace Go.Ev
open Go.Proofs
/-! ### facts about calls, one after another -/
def FactOk (x : Fact1) : Prop := ∀ (θ : Nat → Int), MemoOk θ Tryz.prog gl (memoOf [x])
theorem fnil : ∀ x ∈ ([] : List Fact1), FactOk x := fun _ h => by cases h
theorem fcons {x : Fact1} {l : List Fact1} (h : FactOk x) (t : ∀ y ∈ l, FactOk y) : ∀ y ∈ x :: l, FactOk y := fun y hy => by
  rcases List.mem_cons.1 hy with rfl | hy
  · exact h
  · exact t y hy
theorem memo_facts {θ : Nat → Int} : ∀ {l : List Fact1}, (∀ x ∈ l, FactOk x) → MemoOk θ Tryz.prog gl (memoOf l)
  | [], _ => fun _ _ _ _ _ _ _ h => by cases h
  | x :: l, hl => fun f args L ρ h w xs hm hg hr t => by
    simp only [memoOf, bsel_eq] at hm
    split at hm
    · rename_i he
      exact hl x List.mem_cons_self θ f args L ρ h w xs (by simp only [memoOf, bsel_eq, he, if_true]; exact hm) hg hr t
    · exact memo_facts (fun y hy => hl y (List.mem_cons_of_mem _ hy)) f args L ρ h w xs hm hg hr t
noncomputable def rsOf (f : FuncId) : List (List Sh) := match PT.get (Pos.key f) bndT with
  | some b => b.rs
  | none => []
noncomputable def resIs (o : Option (List V)) (r : List V) : Bool := match o with
  | some l => vEqs l r
  | none => false
noncomputable def factB (l : List Fact1) (x : Fact1) : Bool := resIs (den (callM (memoOf l)) (rsOf x.f) x.f x.args) x.res
theorem fact_ok {l : List Fact1} (hl : ∀ x ∈ l, FactOk x) {x : Fact1} (h : factB l x = true) : FactOk x := fun θ => by
  refine memoOf_ok (callM_ok (memo_facts hl)) fun y hy => ?_
  obtain rfl : y = x := by simpa using hy
  refine ⟨rsOf y.f, ?_⟩
  unfold factB resIs at h
  split at h
  · rename_i l e
    rw [e, vEqs_eq h]
  · cases h
/-- bytes -/
def sb (n : Nat) (l : List Nat) : V := .str n (l.map fun b => .int .u8 (.ofNat b))
def isT : V → Bool
  | .bool b => b
  | _ => false
def trueB : Out → Bool
  | .bad => false
  | .one v _ => isT v
  | .many l => l.all fun x => isT x.1
theorem isT_eq {v : V} (h : isT v = true) : v = .bool true := by
  cases v with
  | bool b => cases b with
    | true => rfl
    | false => cases h
  | _ => cases h
theorem trueB_ok {o : Out} (h : trueB o = true) : TrueOut o := by
  cases o with
  | bad => cases h
  | one v _ => exact isT_eq h
  | many l => exact fun x hx => isT_eq (List.all_eq_true.1 h x hx)
end Go.Ev
end

section
set_option autoImplicit false
set_option maxRecDepth 100000
namespace Go.Ev
open Go.Proofs
/-! ### one name for a number in the place of another -/
noncomputable section
mutual
def sbV (d s : SE) : V → V
  | .sym k e => .sym k (bsel (vEq (.sym k e) (.sym k d)) s e)
  | .agg n cs => .agg n (sbL d s cs)
  | .tup l => .tup (sbL d s l)
  | .fz l n => .fz (sbL d s l) n
  | .fp l => .fp (sbL d s l)
  | v => v
def sbL (d s : SE) : List V → List V
  | [] => []
  | v :: l => sbV d s v :: sbL d s l
end
end
section
variable {θ : Nat → Int} {d s : SE}
/-- the two are equal there -/
def SbOk (θ : Nat → Int) (d s : SE) : Prop := d.Ok θ ∧ s.Ok θ ∧ d.eval θ = s.eval θ
theorem sbSym (hs : SbOk θ d s) {k : IntKind} {e : SE} (h : e.Ok θ) : (bsel (vEq (.sym k e) (.sym k d)) s e).Ok θ ∧ (bsel (vEq (.sym k e) (.sym k d)) s e).eval θ = e.eval θ := by
  cases hv : vEq (.sym k e) (.sym k d) with
  | false => exact ⟨h, rfl⟩
  | true =>
    have := vEq_eq hv
    injection this with _ e1
    subst e1
    exact ⟨hs.2.1, hs.2.2.symm⟩
mutual
theorem sbV_z (hs : SbOk θ d s) (fz : Fz) : ∀ (v : V) (x : Value), ZRel θ fz v x → ZRel θ fz (sbV d s v) x
  | .sym k e, x, h => by
    simp only [ZRel] at h
    simp only [sbV, ZRel]
    obtain ⟨h1, h2⟩ := sbSym hs (k := k) h.1
    exact ⟨h1, by rw [h2]; exact h.2⟩
  | .fz l n, x, h => by
    simp only [ZRel] at h
    simp only [sbV, ZRel]
    obtain ⟨q, o, cap, c, h1, h2, h3, h4⟩ := h
    exact ⟨q, o, cap, c, h1, h2, h3, sbL_z hs fz l c o h4⟩
  | .fx _ _, _, h => h
  | .fp l, x, h => by
    simp only [ZRel] at h
    simp only [sbV, ZRel]
    obtain ⟨q, o, c, h1, h3, h4⟩ := h
    exact ⟨q, o, c, h1, h3, sbL_z hs fz l c o h4⟩
  | .int .., _, h => h
  | .any .., _, h => h
  | .bool _, _, h => h
  | .str .., _, h => h
  | .nilp, _, h => h
  | .nils, _, h => h
  | .nilm, _, h => h
  | .nilf, _, h => h
  | .fe, _, h => h
  | .ord .., _, h => h
  | .ptr .., _, h => h
  | .slice .., _, h => h
  | .map _, _, h => h
  | .func .., _, h => h
  | .agg .., _, h => by simp only [ZRel] at h
  | .tup _, _, h => by simp only [ZRel] at h
theorem sbL_z (hs : SbOk θ d s) (fz : Fz) : ∀ (l : List V) (c : Array Value) (o : Nat), ZRels θ fz l c o → ZRels θ fz (sbL d s l) c o
  | [], _, _, h => by simp only [sbL, ZRels]
  | v :: l, c, o, h => by
    simp only [ZRels] at h
    simp only [sbL, ZRels]
    obtain ⟨⟨y, h1, h2⟩, h3⟩ := h
    exact ⟨⟨y, h1, sbV_z hs fz v y h2⟩, sbL_z hs fz l c (o + 1) h3⟩
end
theorem sbV_c (hs : SbOk θ d s) {ρ : Ro} {v : V} {x : Value} (h : CRel θ ρ v x) : CRel θ ρ (sbV d s v) x := by
  cases v with
  | sym k e =>
    obtain ⟨h1, h2⟩ := sbSym hs (k := k) h.1
    exact ⟨h1, by rw [h2]; exact h.2⟩
  | fz l n =>
    have := sbV_z hs ρ.fz (.fz l n) x h
    simp only [sbV] at this ⊢
    exact this
  | fp l =>
    have := sbV_z hs ρ.fz (.fp l) x h
    simp only [sbV] at this ⊢
    exact this
  | agg n cs => exact h.elim
  | tup l => exact h.elim
  | _ => exact h
theorem all2_sb {R : V → Value → Prop} (hR : ∀ v x, R v x → R (sbV d s v) x) : ∀ {l : List V} {xs : List Value}, All2 R l xs → All2 R (sbL d s l) xs
  | _, _, .nil => .nil
  | _, _, .cons h t => .cons (hR _ _ h) (all2_sb hR t)
theorem sbL_len : ∀ (l : List V), (sbL d s l).length = l.length
  | [] => rfl
  | _ :: l => congrArg (· + 1) (sbL_len l)
theorem sbV_a (hs : SbOk θ d s) {ρ : Ro} {v : V} {x : Value} (h : ARel θ ρ v x) : ARel θ ρ (sbV d s v) x := by
  cases v with
  | agg n cs =>
    obtain ⟨h1, xs, h2, h3⟩ := h
    exact ⟨by rw [sbL_len]; exact h1, xs, h2, all2_sb (fun _ _ h => sbV_c hs h) h3⟩
  | tup l => exact (show False from h).elim
  | sym k e => exact sbV_c hs (ρ := ρ) (v := .sym k e) h
  | fz l n => exact sbV_c hs (ρ := ρ) (v := .fz l n) h
  | fp l => exact sbV_c hs (ρ := ρ) (v := .fp l) h
  | _ => exact h
theorem sbV_v (hs : SbOk θ d s) {ρ : Ro} {v : V} {x : Value} (h : VRel θ ρ v x) : VRel θ ρ (sbV d s v) x := by
  cases v with
  | tup l =>
    obtain ⟨xs, h2, h3⟩ := h
    exact ⟨xs, h2, all2_sb (fun _ _ h => sbV_a hs h) h3⟩
  | agg n cs => exact sbV_a hs (ρ := ρ) (v := .agg n cs) h
  | sym k e => exact sbV_c hs (ρ := ρ) (v := .sym k e) h
  | fz l n => exact sbV_c hs (ρ := ρ) (v := .fz l n) h
  | fp l => exact sbV_c hs (ρ := ρ) (v := .fp l) h
  | _ => exact h
theorem sbL_mem {v : V} : ∀ {l : List V}, v ∈ l → sbV d s v ∈ sbL d s l
  | _ :: _, h => by
    rcases List.mem_cons.1 h with rfl | h
    · exact List.mem_cons_self
    · exact List.mem_cons_of_mem _ (sbL_mem h)
end
/-! ### facts where some numbers have two names -/
abbrev Eqs := List (SE × SE)
def EqsOk (θ : Nat → Int) (l : Eqs) : Prop := ∀ p ∈ l, SbOk θ p.1 p.2
noncomputable def sbLs : Eqs → List V → List V
  | [], l => l
  | p :: q, l => sbLs q (sbL p.1 p.2 l)
def flip (q : Eqs) : Eqs := q.map fun p => (p.2, p.1)
theorem EqsOk.flip {θ : Nat → Int} {q : Eqs} (h : EqsOk θ q) : EqsOk θ (Go.Ev.flip q) := by
  intro p hp
  obtain ⟨r, hr, rfl⟩ := List.mem_map.1 hp
  have := h r hr
  exact ⟨this.2.1, this.1, this.2.2.symm⟩
theorem sbLs_a {θ : Nat → Int} {ρ : Ro} : ∀ {q : Eqs} {l : List V} {xs : List Value}, EqsOk θ q → All2 (ARel θ ρ) l xs → All2 (ARel θ ρ) (sbLs q l) xs
  | [], _, _, _, t => t
  | p :: q, _, _, h, t => sbLs_a (q := q) (fun r hr => h r (List.mem_cons_of_mem _ hr)) (all2_sb (fun _ _ g => sbV_a (h p List.mem_cons_self) g) t)
theorem sbLs_v {θ : Nat → Int} : ∀ {q : Eqs} {l : List V} {v : V}, EqsOk θ q → v ∈ l → ∃ v', v' ∈ sbLs q l ∧ ∀ {ρ : Ro} {x : Value}, VRel θ ρ v x → VRel θ ρ v' x
  | [], _, v, _, hm => ⟨v, hm, fun h => h⟩
  | p :: q, _, v, h, hm => by
    obtain ⟨v', h1, h2⟩ := sbLs_v (q := q) (fun r hr => h r (List.mem_cons_of_mem _ hr)) (sbL_mem (d := p.1) (s := p.2) hm)
    exact ⟨v', h1, fun g => h2 (sbV_v (h p List.mem_cons_self) g)⟩
def FactAt (q : Eqs) (x : Fact1) : Prop := ∀ (θ : Nat → Int), EqsOk θ q → MemoOk θ Tryz.prog gl (memoOf [x])
theorem FactOk.at {x : Fact1} (h : FactOk x) (q : Eqs) : FactAt q x := fun θ _ => h θ
theorem anil {q : Eqs} : ∀ x ∈ ([] : List Fact1), FactAt q x := fun _ h => by cases h
theorem acons {q : Eqs} {x : Fact1} {l : List Fact1} (h : FactAt q x) (t : ∀ y ∈ l, FactAt q y) : ∀ y ∈ x :: l, FactAt q y := fun y hy => by
  rcases List.mem_cons.1 hy with rfl | hy
  · exact h
  · exact t y hy
theorem afacts {q : Eqs} {l : List Fact1} (h : ∀ y ∈ l, FactOk y) : ∀ y ∈ l, FactAt q y := fun y hy => (h y hy).at q
theorem memo_at {θ : Nat → Int} {q : Eqs} (hq : EqsOk θ q) : ∀ {l : List Fact1}, (∀ x ∈ l, FactAt q x) → MemoOk θ Tryz.prog gl (memoOf l)
  | [], _ => fun _ _ _ _ _ _ _ h => by cases h
  | x :: l, hl => fun f args L ρ h w xs hm hg hr t => by
    simp only [memoOf, bsel_eq] at hm
    split at hm
    · rename_i he
      exact hl x List.mem_cons_self θ hq f args L ρ h w xs (by simp only [memoOf, bsel_eq, he, if_true]; exact hm) hg hr t
    · exact memo_at hq (fun y hy => hl y (List.mem_cons_of_mem _ hy)) f args L ρ h w xs hm hg hr t
theorem fact_at {q : Eqs} {l : List Fact1} (hl : ∀ x ∈ l, FactAt q x) {x : Fact1} (h : factB l x = true) : FactAt q x := fun θ hq => by
  refine memoOf_ok (callM_ok (memo_at hq hl)) fun y hy => ?_
  obtain rfl : y = x := by simpa using hy
  refine ⟨rsOf y.f, ?_⟩
  unfold factB resIs at h
  split at h
  · rename_i l e
    rw [e, vEqs_eq h]
  · cases h
theorem memo_one {x : Fact1} {f : FuncId} {args L : List V} (h : memoOf [x] f args = some L) : f = x.f ∧ args = x.args ∧ L = x.res := by
  simp only [memoOf, bsel_eq] at h
  split at h
  · rename_i he
    rw [band_eq, Bool.and_eq_true, nbeq_iff, decide_eq_true_iff] at he
    injection h with h
    exact ⟨he.1.symm, (vEqs_eq he.2).symm, h.symm⟩
  · cases h
/-- other names in the arguments -/
theorem FactAt.args {q : Eqs} {f : FuncId} {a a' r : List V} (h : FactAt q ⟨f, a', r⟩) (e : vEqs (sbLs (flip q) a) a' = true) (hm : (memoOf [⟨f, a', r⟩] f a').isSome = true) : FactAt q ⟨f, a, r⟩ := fun θ hq f1 args L ρ hp w xs hmem hg hr t => by
  obtain ⟨rfl, rfl, rfl⟩ := memo_one hmem
  have t' := sbLs_a hq.flip t
  rw [vEqs_eq e] at t'
  obtain ⟨L', hL⟩ := Option.isSome_iff_exists.1 hm
  obtain ⟨-, -, rfl⟩ := memo_one hL
  exact h θ hq _ _ _ ρ hp w xs hL hg hr t'
/-- other names in what comes back -/
theorem FactAt.res {q : Eqs} {f : FuncId} {a r r' : List V} (h : FactAt q ⟨f, a, r'⟩) (e : vEqs (sbLs q r') r = true) (hm : (memoOf [⟨f, a, r'⟩] f a).isSome = true) : FactAt q ⟨f, a, r⟩ := fun θ hq f1 args L ρ hp w xs hmem hg hr t => by
  obtain ⟨rfl, rfl, rfl⟩ := memo_one hmem
  obtain ⟨L', hL⟩ := Option.isSome_iff_exists.1 hm
  obtain ⟨-, -, rfl⟩ := memo_one hL
  obtain ⟨h1, h2⟩ := h θ hq _ _ _ ρ hp w xs hL hg hr t
  refine ⟨h1, Calls.mono h2 fun en w' he => ?_⟩
  cases en with
  | panicked _ => exact he
  | outgrown => exact he
  | returned x =>
    obtain ⟨v, ρ', hv, g⟩ := he
    obtain ⟨v', k1, k2⟩ := sbLs_v hq hv
    rw [vEqs_eq e] at k1
    exact ⟨v', ρ', k1, g.1, g.2.1, g.2.2.1, k2 g.2.2.2.1, g.2.2.2.2⟩
/-- a law's run, from any memory where the listed variable is as it was laid -/
theorem walk_at {θ : Nat → Int} {f : FuncId} {vs : List V} {xs : List Value} {l : List Fact1} (ht : MemoOk θ Tryz.prog gl (memoOf l) ∧ trueB (callM (memoOf l) f vs emptyH) = true) {W : World}
    (hT : Lib.VarReads Tryz.prog W "clusterkernel/code.forms" YtienogpnkkailaaGreatDoor.Rows.laid_clusterkernel_code_forms) (t : ∀ ρ : Ro, All2 (VRel θ ρ) vs xs) :
    Calls Tryz.prog f xs.toArray W fun e W' => e = .returned (.bool true) ∧ W.keptBut W' (fun _ => False) := by
  obtain ⟨cs, ty, fr, hc, hz⟩ := forms_cells hT
  obtain ⟨hr, hg⟩ := start_ok (θ := θ) hc hz (q := 0) (c := #[]) (fun h => absurd rfl h)
  exact law_ok ht.1 (trueB_ok ht.2) hr hg (t _)
theorem v_sym {θ : Nat → Int} {ρ : Ro} {k : IntKind} {c : Int} {ts : List ST} {a : Int} (e : (SE.mk c ts).eval θ = a) (hok : (SE.mk c ts).Ok θ) : VRel θ ρ (.sym k (.mk c ts)) (.int k a) := ⟨hok, by rw [e]⟩
theorem eqs_nil {θ : Nat → Int} : EqsOk θ [] := fun _ h => by cases h
theorem eqs_cons {θ : Nat → Int} {p : SE × SE} {q : Eqs} (h : SbOk θ p.1 p.2) (t : EqsOk θ q) : EqsOk θ (p :: q) := fun r hr => by
  rcases List.mem_cons.1 hr with rfl | hr
  · exact h
  · exact t r hr
end Go.Ev
end
