import Derived.Test.YtienogpnkkailaaGreatDoorEvA
import Derived.Calls
import Derived.Laws.Cells
section
set_option autoImplicit false
namespace Go.Ev

theorem nble_iff (a b : Nat) : Nat.ble a b = decide (a ≤ b) := by
  rw [Bool.eq_iff_iff, decide_eq_true_iff]
  exact ⟨Nat.le_of_ble_eq_true, fun h => Nat.ble_eq_true_of_le h⟩
theorem nbeq_iff (a b : Nat) : Nat.beq a b = decide (a = b) := by
  rw [Bool.eq_iff_iff, decide_eq_true_iff]
  exact ⟨Nat.eq_of_beq_eq_true, fun h => by rw [h]; exact Nat.beq_refl b⟩
theorem nblt_iff (a b : Nat) : Nat.blt a b = decide (a < b) := by
  unfold Nat.blt; rw [nble_iff]; rfl

/-! ### keys -/
theorem Pos.toNat_ofNatF : ∀ (f n : Nat), 1 ≤ n → n ≤ f → (Pos.ofNatF f n).toNat = n := by
  intro f
  induction f with
  | zero => intro n h1 h2; omega
  | succ f ih =>
    intro n h1 h2
    simp only [Pos.ofNatF, nble_iff, nbeq_iff]
    by_cases hn : n ≤ 1
    · have h : n = 1 := by omega
      subst h; rfl
    · simp only [hn, decide_false, cond_false]
      by_cases he : n % 2 = 0
      · simp only [he, decide_true, cond_true, Pos.toNat]
        rw [ih (n / 2) (by omega) (by omega)]; omega
      · simp only [he, decide_false, cond_false, Pos.toNat]
        rw [ih (n / 2) (by omega) (by omega)]; omega
theorem Pos.toNat_key (n : Nat) : (Pos.key n).toNat = n + 1 := Pos.toNat_ofNatF _ _ (by omega) (by omega)
theorem Pos.key_inj {a b : Nat} (h : Pos.key a = Pos.key b) : a = b := by
  have := congrArg Pos.toNat h
  rw [Pos.toNat_key, Pos.toNat_key] at this
  omega

/-! ### tries -/
namespace PT
variable {α : Type}
theorem get_one_node (l : PT α) (v : Option α) (r : PT α) : get .one (.node l v r) = v := rfl
theorem get_o_node (p : Pos) (l : PT α) (v : Option α) (r : PT α) : get (.o p) (.node l v r) = get p l := rfl
theorem get_i_node (p : Pos) (l : PT α) (v : Option α) (r : PT α) : get (.i p) (.node l v r) = get p r := rfl
theorem get_nil (p : Pos) : get p (.nil : PT α) = none := by cases p <;> rfl
theorem set_one_node (x : Option α) (l : PT α) (v : Option α) (r : PT α) : set .one x (.node l v r) = .node l x r := rfl
theorem set_one_nil (x : Option α) : set .one x (.nil : PT α) = .node .nil x .nil := rfl
theorem set_o_node (p : Pos) (x : Option α) (l : PT α) (v : Option α) (r : PT α) : set (.o p) x (.node l v r) = .node (set p x l) v r := rfl
theorem set_o_nil (p : Pos) (x : Option α) : set (.o p) x (.nil : PT α) = .node (set p x .nil) none .nil := rfl
theorem set_i_node (p : Pos) (x : Option α) (l : PT α) (v : Option α) (r : PT α) : set (.i p) x (.node l v r) = .node l v (set p x r) := rfl
theorem set_i_nil (p : Pos) (x : Option α) : set (.i p) x (.nil : PT α) = .node .nil none (set p x .nil) := rfl

theorem get_set_same (p : Pos) : ∀ (x : Option α) (t : PT α), get p (set p x t) = x := by
  induction p with
  | one => intro x t; cases t <;> rfl
  | o p ih => intro x t; cases t <;> simp only [set_o_node, set_o_nil, get_o_node, ih]
  | i p ih => intro x t; cases t <;> simp only [set_i_node, set_i_nil, get_i_node, ih]
theorem get_set_ne (p : Pos) : ∀ (q : Pos) (x : Option α) (t : PT α), q ≠ p → get q (set p x t) = get q t := by
  induction p with
  | one => intro q x t h; cases q with
    | one => exact absurd rfl h
    | o q => cases t <;> simp [set_one_node, set_one_nil, get_o_node, get_nil]
    | i q => cases t <;> simp [set_one_node, set_one_nil, get_i_node, get_nil]
  | o p ih => intro q x t h; cases q with
    | one => cases t <;> simp [set_o_node, set_o_nil, get_one_node, get_nil]
    | o q =>
      have h' : q ≠ p := fun e => h (by rw [e])
      cases t <;> simp [set_o_node, set_o_nil, get_o_node, get_nil, ih q x _ h']
    | i q => cases t <;> simp [set_o_node, set_o_nil, get_i_node, get_nil]
  | i p ih => intro q x t h; cases q with
    | one => cases t <;> simp [set_i_node, set_i_nil, get_one_node, get_nil]
    | o q => cases t <;> simp [set_i_node, set_i_nil, get_o_node, get_nil]
    | i q =>
      have h' : q ≠ p := fun e => h (by rw [e])
      cases t <;> simp [set_i_node, set_i_nil, get_i_node, get_nil, ih q x _ h']
theorem get_key_set (a b : Nat) (x : Option α) (t : PT α) : get (Pos.key a) (set (Pos.key b) x t) = if a = b then x else get (Pos.key a) t := by
  by_cases h : a = b
  · rw [if_pos h, h, get_set_same]
  · rw [if_neg h, get_set_ne _ _ _ _ (fun e => h (Pos.key_inj e))]
end PT

/-! ### booleans -/
@[simp] theorem bor_eq (a b : Bool) : bor a b = (a || b) := by cases a <;> rfl
@[simp] theorem band_eq (a b : Bool) : band a b = (a && b) := by cases a <;> rfl
@[simp] theorem bsel_true {α : Type} (a b : α) : bsel true a b = a := rfl
@[simp] theorem bsel_false {α : Type} (a b : α) : bsel false a b = b := rfl
theorem bsel_eq {α : Type} (c : Bool) (a b : α) : bsel c a b = if c = true then a else b := by cases c <;> rfl
@[simp] theorem ob_some {α β : Type} (x : α) (f : α → Option β) : ob (some x) f = f x := rfl
@[simp] theorem ob_none {α β : Type} (f : α → Option β) : ob none f = none := rfl
theorem ob_eq_some {α β : Type} {x : Option α} {f : α → Option β} {b : β} (h : ob x f = some b) : ∃ a, x = some a ∧ f a = some b := by
  cases x with
  | none => cases h
  | some a => exact ⟨a, rfl, h⟩
theorem bsel_bad_opt {α : Type} {c : Bool} {a : Option α} {b : α} (h : bsel c a none = some b) : c = true ∧ a = some b := by
  cases c with
  | true => exact ⟨rfl, h⟩
  | false => cases h

/-! ### heaps -/
theorem Heap.get_put (h : Heap) (a b : Nat) (o : AObj) : (h.put b o).get a = if a = b then some o else h.get a := PT.get_key_set a b (some o) h.objs
theorem Heap.get_del (h : Heap) (a b : Nat) : (h.del b).get a = if a = b then none else h.get a := PT.get_key_set a b none h.objs
theorem Heap.get_new (h : Heap) (a : Nat) (o : AObj) : (h.new o).get a = if a = h.next then some o else h.get a := PT.get_key_set a h.next (some o) h.objs
@[simp] theorem Heap.next_put (h : Heap) (b : Nat) (o : AObj) : (h.put b o).next = h.next := rfl
@[simp] theorem Heap.next_del (h : Heap) (b : Nat) : (h.del b).next = h.next := rfl
@[simp] theorem Heap.next_new (h : Heap) (o : AObj) : (h.new o).next = h.next + 1 := rfl

/-! ### lists -/
theorem nth_eq : ∀ (n : Nat) (l : List V), nth n l = l[n]? := by
  intro n
  induction n with
  | zero => intro l; cases l <;> rfl
  | succ n ih => intro l; cases l with
    | nil => rfl
    | cons v l => exact ih l
theorem dropV_eq : ∀ (n : Nat) (l : List V), dropV n l = l.drop n := by
  intro n
  induction n with
  | zero => intro l; rfl
  | succ n ih => intro l; cases l with
    | nil => rfl
    | cons v l => exact ih l
theorem takeV_eq : ∀ (n : Nat) (l : List V), takeV n l = l.take n := by
  intro n
  induction n with
  | zero => intro l; rfl
  | succ n ih => intro l; cases l with
    | nil => rfl
    | cons v l => exact congrArg (v :: ·) (ih l)
theorem appV_eq (l r : List V) : appV l r = l ++ r := by
  induction l with
  | nil => rfl
  | cons v l ih => exact congrArg (v :: ·) ih
theorem takeO_eq : ∀ (n : Nat) (l r : List V), takeO n l = some r → n ≤ l.length ∧ r = l.take n := by
  intro n
  induction n with
  | zero => intro l r h; change some [] = some r at h; injection h with h; subst h; exact ⟨Nat.zero_le _, by simp⟩
  | succ n ih => intro l r h; cases l with
    | nil => cases h
    | cons v l =>
      change ob (takeO n l) (fun r => some (v :: r)) = some r at h
      obtain ⟨r', h1, h2⟩ := ob_eq_some h
      injection h2 with h2; subst h2
      obtain ⟨h3, h4⟩ := ih l r' h1
      exact ⟨by simpa using h3, by rw [h4]; rfl⟩
theorem wrV_eq (vs : List V) (n : Nat) : ∀ (off : Nat) (c : List V), off ≤ c.length → wrV off vs n c = c.take off ++ (vs ++ c.drop (off + n)) := by
  intro off
  induction off with
  | zero => intro c _; show appV vs (dropV n c) = _; rw [appV_eq, dropV_eq]; simp
  | succ off ih => intro c h; cases c with
    | nil => simp at h
    | cons v c =>
      show v :: wrV off vs n c = _
      rw [ih c (by simpa using h)]
      simp [Nat.add_right_comm off 1 n]
theorem replV_eq (z : List V) : ∀ n, replV z n = (List.replicate n z).flatten := by
  intro n
  induction n with
  | zero => rfl
  | succ n ih => simp [replV, appV_eq, ih, List.replicate_succ]

/-! ### numbers -/
theorem wrap_signed (k : IntKind) (hs : k.signed = true) (n : Int) (h1 : -(2 ^ (k.bits - 1) : Int) ≤ n) (h2 : n < 2 ^ (k.bits - 1)) : k.wrap n = n := by
  cases k <;> simp_all [IntKind.wrap, IntKind.bits, IntKind.signed] <;> omega
theorem wrap_unsigned (k : IntKind) (hs : k.signed = false) (n : Int) (h1 : 0 ≤ n) (h2 : n < 2 ^ k.bits) : k.wrap n = n := by
  cases k <;> simp_all [IntKind.wrap, IntKind.bits, IntKind.signed] <;> omega
theorem inRange_wrap {k : IntKind} {n : Int} (h : inRange k n = true) : k.wrap n = n := by
  cases n with
  | ofNat m =>
    change Nat.ble m (posMax k) = true at h
    have h' : m ≤ posMax k := Nat.le_of_ble_eq_true h
    have hb : Int.ofNat m = (m : Int) := rfl
    rw [hb]
    cases k
    case i8 => exact wrap_signed _ rfl _ (by simp [IntKind.bits]) (by simp [posMax, IntKind.bits] at *; omega)
    case i16 => exact wrap_signed _ rfl _ (by simp [IntKind.bits]) (by simp [posMax, IntKind.bits] at *; omega)
    case i32 => exact wrap_signed _ rfl _ (by simp [IntKind.bits]) (by simp [posMax, IntKind.bits] at *; omega)
    case i64 => exact wrap_signed _ rfl _ (by simp [IntKind.bits]) (by simp [posMax, IntKind.bits] at *; omega)
    all_goals exact wrap_unsigned _ rfl _ (by omega) (by simp [posMax, IntKind.bits] at *; omega)
  | negSucc m =>
    change negOk k m = true at h
    cases k <;> simp only [negOk, nble_iff, decide_eq_true_eq, Bool.false_eq_true] at h
    all_goals exact wrap_signed _ rfl _ (by simp [IntKind.bits]; omega) (by simp [IntKind.bits]; omega)
theorem wrapA_eq (k : IntKind) (n : Int) : wrapA k n = k.wrap n := by
  unfold wrapA
  cases h : inRange k n with
  | true => exact (inRange_wrap h).symm
  | false => rfl
theorem intEq_eq (a b : Int) : intEq a b = (a == b) := by
  rw [Bool.eq_iff_iff, beq_iff_eq]
  cases a <;> cases b <;> simp [intEq, nbeq_iff] <;> omega
theorem intLt_eq (a b : Int) : intLt a b = decide (a < b) := by
  rw [Bool.eq_iff_iff, decide_eq_true_iff]
  cases a <;> cases b <;> simp [intLt, nblt_iff] <;> omega
theorem kindEq_iff (k j : IntKind) : kindEq k j = decide (k = j) := by
  cases k <;> cases j <;> rfl
theorem iAdd_eq (a b : Int) : iAdd a b = a + b := by
  cases a <;> cases b <;> rfl
theorem iSub_eq (a b : Int) : iSub a b = a - b := by
  cases a with
  | ofNat m => cases b with
    | ofNat n =>
      show bsel (Nat.ble n m) (Int.ofNat (Nat.sub m n)) (Int.sub (Int.ofNat m) (Int.ofNat n)) = _
      rw [nble_iff]
      by_cases h : n ≤ m
      · simp [h]; omega
      · simp [h]; rfl
    | negSucc n => rfl
  | negSucc m => rfl
end Go.Ev
end

section
set_option autoImplicit false
namespace Go.Ev

/-- Where an abstract block lies: the concrete block, the first cell, how many elements there is room for. -/
structure Pl where
  blk : Nat
  base : Nat
  cap : Nat
/-- Concrete blocks that do not change any more, and what they hold. -/
abbrev Fz := Nat → Option (Array Value)
def Fz.le (f g : Fz) : Prop := ∀ q c, f q = some c → g q = some c
/-- The places of the abstract blocks; and the concrete blocks that do not change any more. -/
structure Ro where
  pl : Nat → Option Pl
  fz : Fz
instance : CoeFun Ro (fun _ => Nat → Option Pl) := ⟨Ro.pl⟩
structure Ro.le (r s : Ro) : Prop where
  pl : ∀ b p, r.pl b = some p → s.pl b = some p
  fz : r.fz.le s.fz
instance {r s : Ro} : CoeFun (r.le s) (fun _ => ∀ b p, r.pl b = some p → s.pl b = some p) := ⟨Ro.le.pl⟩
theorem Ro.le_refl (r : Ro) : r.le r := ⟨fun _ _ h => h, fun _ _ h => h⟩
theorem Ro.le_trans {r s t : Ro} (h : r.le s) (h' : s.le t) : r.le t := ⟨fun b p e => h' b p (h b p e), fun q c e => h'.fz q c (h.fz q c e)⟩
def Ro.ext (r : Ro) (b : Nat) (p : Pl) : Ro := ⟨fun a => if a = b then some p else r a, r.fz⟩
theorem Ro.ext_eq (r : Ro) (b : Nat) (p : Pl) (a : Nat) : (r.ext b p) a = if a = b then some p else r a := rfl
theorem Ro.ext_same (r : Ro) (b : Nat) (p : Pl) : r.ext b p b = some p := if_pos rfl
theorem Ro.ext_ne (r : Ro) {a b : Nat} (p : Pl) (h : a ≠ b) : r.ext b p a = r a := if_neg h
theorem Ro.le_ext {r : Ro} {b : Nat} (p : Pl) (h : r b = none) : r.le (r.ext b p) := ⟨fun a q e => by
  unfold Ro.ext
  by_cases hab : a = b
  · rw [hab, h] at e; cases e
  · simp only [if_neg hab]; exact e, fun _ _ e => e⟩

inductive All2 {α β : Type} (R : α → β → Prop) : List α → List β → Prop
  | nil : All2 R [] []
  | cons {a : α} {b : β} {l : List α} {m : List β} (h : R a b) (t : All2 R l m) : All2 R (a :: l) (b :: m)
namespace All2
variable {α β : Type} {R S : α → β → Prop}
theorem mono (h : ∀ a b, R a b → S a b) {l : List α} {m : List β} (t : All2 R l m) : All2 S l m := by
  induction t with
  | nil => exact .nil
  | cons h' _ ih => exact .cons (h _ _ h') ih
theorem length {l : List α} {m : List β} (t : All2 R l m) : l.length = m.length := by
  induction t with
  | nil => rfl
  | cons _ _ ih => simp [ih]
theorem get {l : List α} {m : List β} (t : All2 R l m) : ∀ {i : Nat} {a : α}, l[i]? = some a → ∃ b, m[i]? = some b ∧ R a b := by
  induction t with
  | nil => intro i a h; simp at h
  | cons h' _ ih =>
    intro i a h
    cases i with
    | zero => simp at h; subst h; exact ⟨_, by simp, h'⟩
    | succ i => simp at h; obtain ⟨b, hb, hr⟩ := ih h; exact ⟨b, by simpa using hb, hr⟩
theorem append {l l' : List α} {m m' : List β} (t : All2 R l m) (t' : All2 R l' m') : All2 R (l ++ l') (m ++ m') := by
  induction t with
  | nil => exact t'
  | cons h _ ih => exact .cons h ih
theorem take {l : List α} {m : List β} (t : All2 R l m) : ∀ n, All2 R (l.take n) (m.take n) := by
  induction t with
  | nil => intro n; simp; exact .nil
  | cons h _ ih => intro n; cases n with
    | zero => exact .nil
    | succ n => exact .cons h (ih n)
theorem drop {l : List α} {m : List β} (t : All2 R l m) : ∀ n, All2 R (l.drop n) (m.drop n) := by
  induction t with
  | nil => intro n; simp; exact .nil
  | cons h t ih => intro n; cases n with
    | zero => exact .cons h t
    | succ n => exact ih n
/-- by the places -/
theorem of_get : ∀ {l : List α} {m : List β}, l.length = m.length → (∀ (i : Nat) (a : α), l[i]? = some a → ∃ b, m[i]? = some b ∧ R a b) → All2 R l m
  | [], [], _, _ => .nil
  | [], _ :: _, h, _ => by simp at h
  | _ :: _, [], h, _ => by simp at h
  | a :: l, b :: m, h, hg => by
    obtain ⟨b', hb, hr⟩ := hg 0 a (by simp)
    simp at hb; subst hb
    exact .cons hr (of_get (by simpa using h) fun i a ha => by
      obtain ⟨b', hb, hr⟩ := hg (i + 1) a (by simpa using ha)
      exact ⟨b', by simpa using hb, hr⟩)
theorem rep {a : α} {b : β} (h : R a b) : ∀ n, All2 R (List.replicate n a) (List.replicate n b)
  | 0 => .nil
  | n + 1 => .cons h (rep h n)
theorem flat {l : List (List α)} {m : List (List β)} (t : All2 (All2 R) l m) : All2 R l.flatten m.flatten := by
  induction t with
  | nil => exact .nil
  | cons h _ ih => simpa using h.append ih
end All2

section
variable (θ : Nat → Int)
def ST.eval : ST → Int
  | .mk k v _ _ => k * θ v
def evT : List ST → Int
  | [] => 0
  | t :: l => t.eval θ + evT l
def SE.eval : SE → Int
  | .mk c ts => c + evT θ ts
def ST.Ok : ST → Prop
  | .mk _ v lo hi => lo ≤ θ v ∧ θ v ≤ hi
/-- the variables are within their bounds -/
def OkT (ts : List ST) : Prop := ∀ t ∈ ts, t.Ok θ
def SE.Ok : SE → Prop
  | .mk _ ts => OkT θ ts
def byteV : V → UInt8
  | .int _ n => UInt8.ofNat n.toNat
  | .sym _ e => UInt8.ofNat (e.eval θ).toNat
  | _ => 0
def ByteOk (v : V) : Prop := match v with
  | .int _ n => 0 ≤ n ∧ n < 256
  | .sym _ e => e.Ok θ ∧ 0 ≤ e.eval θ ∧ e.eval θ < 256
  | _ => False
def strOf (s : List V) : ByteArray := ⟨(s.map (byteV θ)).toArray⟩
def ACap.of (p : Pl) : ACap → Nat
  | .exact n => n
  | .rest k => p.cap - k
def PRel (ρ : Ro) (c : Nat × Nat) (x : Value) : Prop := ∃ p, ρ c.1 = some p ∧ x = .pointer (some ⟨p.blk, p.base + c.2, none⟩)

mutual
/-- A value of one cell in memory that does not change any more (or that refers to no other memory). -/
def ZRel (fz : Fz) : V → Value → Prop
  | .int k n, x => x = .int k n
  | .sym k e, x => e.Ok θ ∧ x = .int k (e.eval θ)
  | .any k lo hi, x => ∃ n, lo ≤ n ∧ n ≤ hi ∧ x = .int k n
  | .bool b, x => x = .bool b
  | .str n s, x => s.length = n ∧ (∀ u ∈ s, ByteOk θ u) ∧ x = .string (strOf θ s)
  | .nilp, x => x = .pointer none
  | .nils, x => x = .slice none 0 0
  | .nilm, x => x = .map none
  | .nilf, x => x = .nilFunc
  | .fe, x => ∃ a, x = .slice (some a) 0 0
  | .fz l n, x => ∃ q o cap c, x = .slice (some ⟨q, o, none⟩) n cap ∧ n ≤ cap ∧ fz q = some c ∧ ZRels fz l c o
  | .fx l n, x => ∃ q o c, x = .slice (some ⟨q, o, none⟩) n n ∧ fz q = some c ∧ ZRels fz l c o
  | .fp l, x => ∃ q o c, x = .pointer (some ⟨q, o, none⟩) ∧ fz q = some c ∧ ZRels fz l c o
  | .ord len idx v, x => len.Ok θ ∧ idx.Ok θ ∧ ((len.eval θ = 0 ∧ x = .slice none 0 0) ∨ ∃ q o n cap c, x = .slice (some ⟨q, o, none⟩) n cap ∧ len.eval θ = (n : Int) ∧ fz q = some c ∧
      (0 ≤ idx.eval θ → idx.eval θ < len.eval θ → ∃ y, c[o + (idx.eval θ).toNat]? = some y ∧ ZRel fz v y))
  | _, _ => False
def ZRels (fz : Fz) : List V → Array Value → Nat → Prop
  | [], _, _ => True
  | v :: l, c, o => (∃ y, c[o]? = some y ∧ ZRel fz v y) ∧ ZRels fz l c (o + 1)
end
/-- A value of one cell. -/
def CRel (ρ : Ro) (v : V) (x : Value) : Prop :=
  match v with
  | .int k n => x = .int k n
  | .sym k e => e.Ok θ ∧ x = .int k (e.eval θ)
  | .any k lo hi => ∃ n, lo ≤ n ∧ n ≤ hi ∧ x = .int k n
  | .fz l n => ZRel θ ρ.fz (.fz l n) x
  | .fx l n => ZRel θ ρ.fz (.fx l n) x
  | .fp l => ZRel θ ρ.fz (.fp l) x
  | .fe => ∃ a, x = .slice (some a) 0 0
  | .ord len idx v => ZRel θ ρ.fz (.ord len idx v) x
  | .bool b => x = .bool b
  | .ptr b off => PRel ρ (b, off) x
  | .slice b off len cap => ∃ p, ρ b = some p ∧ x = .slice (some ⟨p.blk, p.base + off, none⟩) len (cap.of p)
  | .str n s => s.length = n ∧ (∀ u ∈ s, ByteOk θ u) ∧ x = .string (strOf θ s)
  | .map b => ∃ p, ρ b = some p ∧ x = .map (some p.blk)
  | .func f caps => ∃ xs, x = .func (.func f) #[] xs ∧ All2 (PRel ρ) caps xs.toList
  | .nilp => x = .pointer none
  | .nils => x = .slice none 0 0
  | .nilm => x = .map none
  | .nilf => x = .nilFunc
  | .agg .. | .tup _ => False
/-- A value of one cell, or a struct or an array. -/
def ARel (ρ : Ro) (v : V) (x : Value) : Prop :=
  match v with
  | .agg n cs => cs.length = n ∧ ∃ xs, x = .agg xs ∧ All2 (CRel θ ρ) cs xs.toList
  | v => CRel θ ρ v x
/-- Any value. -/
def VRel (ρ : Ro) (v : V) (x : Value) : Prop :=
  match v with
  | .tup l => ∃ xs, x = .tuple xs ∧ All2 (ARel θ ρ) l xs.toList
  | v => ARel θ ρ v x

def MRel (ρ : Ro) (e : ME) (x : MapEntry) : Prop := CRel θ ρ e.key x.key ∧ ARel θ ρ e.val x.val ∧ x.born = e.born

def noFreeze (fr : Nat × Nat) : Prop := ∀ o, ¬ (fr.1 ≤ o ∧ o < fr.2)

/-- An object of the heap. -/
def ORel (ρ : Ro) (w : World) (b : Nat) (o : AObj) : Prop :=
  ∃ p, ρ b = some p ∧ match o with
    | .blk cs len t => cs.length = len ∧ ∃ c e fr, w.heap[p.blk]? = some (.cells c e fr) ∧ noFreeze fr ∧
        p.base + len ≤ c.size ∧ (∀ (i : Nat) (v : V), cs[i]? = some v → ∃ x, c[p.base + i]? = some x ∧ CRel θ ρ v x) ∧
        (match t with
        | .exact => True
        | .opn size => 0 < size ∧ len ≤ p.cap * size ∧ p.base + p.cap * size ≤ c.size)
    | .map es clock => ∃ xs, w.heap[p.blk]? = some (.map xs clock) ∧ All2 (MRel θ ρ) es xs.toList
    | .mit m since seen last => p.base = 0 ∧ ∃ q, ρ m = some q ∧ w.heap[p.blk]? = some (.mapIter (some q.blk) since seen.reverse.toArray last)
    | .sit s n pos => p.base = 0 ∧ s.length = n ∧ (∀ u ∈ s, ByteOk θ u) ∧ w.heap[p.blk]? = some (.stringIter (strOf θ s) pos)

/-- This concrete block is the place of a living object. -/
def Own (ρ : Ro) (h : Heap) (q : Nat) : Prop := ∃ b p o, h.get b = some o ∧ ρ b = some p ∧ p.blk = q

structure HRel (ρ : Ro) (h : Heap) (w : World) : Prop where
  dom : ∀ b p, ρ b = some p → b < h.next ∧ p.blk < w.heap.size
  obj : ∀ b o p, h.get b = some o → ρ b = some p → ORel θ ρ w b o
  inj : ∀ a b p q o o', h.get a = some o → h.get b = some o' → ρ a = some p → ρ b = some q → p.blk = q.blk → a = b
  frz : ∀ q c, ρ.fz q = some c → (∃ e fr, w.heap[q]? = some (.cells c e fr)) ∧ ¬ Own ρ h q

/-- What a run leaves alone. -/
structure Fram (ρ : Ro) (h : Heap) (w : World) (ρ' : Ro) (h' : Heap) (w' : World) : Prop where
  grow : w.heap.size ≤ w'.heap.size
  keep : ∀ q, q < w.heap.size → ¬ Own ρ h q → w'.heap[q]? = w.heap[q]? ∧ ¬ Own ρ' h' q
  next : h.next ≤ h'.next
  ghost : ∀ b, b < h.next → ρ b = none → ρ' b = none ∧ h'.get b = h.get b
  frz : ∀ q c, ρ'.fz q = some c → q < w.heap.size → ¬ Own ρ h q → ρ.fz q = some c
  io : w'.os = w.os ∧ w'.output = w.output

variable {θ}
theorem PRel.mono {ρ ρ' : Ro} (hr : ρ.le ρ') {c : Nat × Nat} {x : Value} (h : PRel ρ c x) : PRel ρ' c x :=
  let ⟨p, hp, e⟩ := h; ⟨p, hr _ _ hp, e⟩
mutual
theorem ZRel.mono {f g : Fz} (hr : f.le g) : ∀ {v : V} {x : Value}, ZRel θ f v x → ZRel θ g v x
  | .int _ _, _, h => by simpa only [ZRel] using h
  | .sym _ _, _, h => by simpa only [ZRel] using h
  | .any _ _ _, _, h => by simpa only [ZRel] using h
  | .bool _, _, h => by simpa only [ZRel] using h
  | .str _ _, _, h => by simpa only [ZRel] using h
  | .nilp, _, h => by simpa only [ZRel] using h
  | .nils, _, h => by simpa only [ZRel] using h
  | .nilm, _, h => by simpa only [ZRel] using h
  | .nilf, _, h => by simpa only [ZRel] using h
  | .fe, _, h => by simpa only [ZRel] using h
  | .fz l n, x, h => by
    simp only [ZRel] at h ⊢
    obtain ⟨q, o, cap, c, h1, h2, h3, h4⟩ := h
    exact ⟨q, o, cap, c, h1, h2, hr q c h3, ZRels.mono hr h4⟩
  | .fx l n, x, h => by
    simp only [ZRel] at h ⊢
    obtain ⟨q, o, c, h1, h3, h4⟩ := h
    exact ⟨q, o, c, h1, hr q c h3, ZRels.mono hr h4⟩
  | .fp l, x, h => by
    simp only [ZRel] at h ⊢
    obtain ⟨q, o, c, h1, h3, h4⟩ := h
    exact ⟨q, o, c, h1, hr q c h3, ZRels.mono hr h4⟩
  | .ord len idx v, x, h => by
    simp only [ZRel] at h ⊢
    obtain ⟨h1, h2, h⟩ := h
    refine ⟨h1, h2, ?_⟩
    rcases h with h | ⟨q, o, n, cap, c, h3, h4, h5, h6⟩
    · exact .inl h
    · exact .inr ⟨q, o, n, cap, c, h3, h4, hr q c h5, fun a b => let ⟨y, e, hz⟩ := h6 a b; ⟨y, e, ZRel.mono hr hz⟩⟩
  | .ptr _ _, _, h => by simp only [ZRel] at h
  | .slice _ _ _ _, _, h => by simp only [ZRel] at h
  | .agg _ _, _, h => by simp only [ZRel] at h
  | .tup _, _, h => by simp only [ZRel] at h
  | .map _, _, h => by simp only [ZRel] at h
  | .func _ _, _, h => by simp only [ZRel] at h
theorem ZRels.mono {f g : Fz} (hr : f.le g) : ∀ {l : List V} {c : Array Value} {o : Nat}, ZRels θ f l c o → ZRels θ g l c o
  | [], _, _, _ => by simp only [ZRels]
  | v :: l, c, o, h => by
    simp only [ZRels] at h ⊢
    obtain ⟨⟨y, e, hz⟩, ht⟩ := h
    exact ⟨⟨y, e, ZRel.mono hr hz⟩, ZRels.mono hr ht⟩
end
theorem zrel_crel {ρ : Ro} {v : V} {x : Value} (h : ZRel θ ρ.fz v x) : CRel θ ρ v x := by
  cases v <;> simp only [CRel] <;> first
    | exact h
    | (simp only [ZRel] at h; done)
    | (simp only [ZRel] at h; exact h)
theorem zrels_get {f : Fz} {c : Array Value} : ∀ {l : List V} {o i : Nat} {v : V}, ZRels θ f l c o → l[i]? = some v → ∃ y, c[o + i]? = some y ∧ ZRel θ f v y
  | [], _, _, _, _, h => by simp at h
  | u :: l, o, i, v, hz, h => by
    simp only [ZRels] at hz
    cases i with
    | zero => simp at h; subst h; exact hz.1
    | succ i =>
      simp at h
      obtain ⟨y, e, hy⟩ := zrels_get hz.2 h
      exact ⟨y, by rw [show o + (i + 1) = o + 1 + i by omega]; exact e, hy⟩
theorem zrels_drop {f : Fz} {c : Array Value} : ∀ (k : Nat) {l : List V} {o : Nat}, ZRels θ f l c o → ZRels θ f (l.drop k) c (o + k)
  | 0, _, _, h => h
  | k + 1, [], _, _ => by simp only [List.drop_nil, ZRels]
  | k + 1, u :: l, o, h => by
    simp only [ZRels] at h
    rw [List.drop_succ_cons, show o + (k + 1) = o + 1 + k by omega]
    exact zrels_drop k h.2
theorem zrels_take {f : Fz} {c : Array Value} : ∀ (k : Nat) {l : List V} {o : Nat}, ZRels θ f l c o → ZRels θ f (l.take k) c o
  | 0, _, _, _ => by simp only [List.take_zero, ZRels]
  | k + 1, [], _, _ => by simp only [List.take_nil, ZRels]
  | k + 1, u :: l, o, h => by
    simp only [ZRels] at h
    simp only [List.take_succ_cons, ZRels]
    exact ⟨h.1, zrels_take k h.2⟩
theorem zrels_of {f : Fz} {c : Array Value} : ∀ {l : List V} {o : Nat}, (∀ i v, l[i]? = some v → ∃ y, c[o + i]? = some y ∧ ZRel θ f v y) → ZRels θ f l c o
  | [], _, _ => by simp only [ZRels]
  | u :: l, o, h => by
    simp only [ZRels]
    refine ⟨by simpa using h 0 u (by simp), zrels_of fun i v hi => ?_⟩
    obtain ⟨y, e, hy⟩ := h (i + 1) v (by simpa using hi)
    exact ⟨y, by rw [show o + 1 + i = o + (i + 1) by omega]; exact e, hy⟩
theorem CRel.mono {ρ ρ' : Ro} (hr : ρ.le ρ') {v : V} {x : Value} (h : CRel θ ρ v x) : CRel θ ρ' v x := by
  cases v <;> simp only [CRel] at h ⊢ <;> first
    | exact h
    | exact ZRel.mono hr.fz h
    | exact PRel.mono hr h
    | (obtain ⟨p, hp, e⟩ := h; exact ⟨p, hr _ _ hp, e⟩)
    | (obtain ⟨xs, e, t⟩ := h; exact ⟨xs, e, t.mono fun _ _ => PRel.mono hr⟩)
theorem ARel.mono {ρ ρ' : Ro} (hr : ρ.le ρ') {v : V} {x : Value} (h : ARel θ ρ v x) : ARel θ ρ' v x := by
  cases v <;> simp only [ARel] at h ⊢ <;> first
    | exact CRel.mono hr h
    | (obtain ⟨hn, xs, e, t⟩ := h; exact ⟨hn, xs, e, t.mono fun _ _ => CRel.mono hr⟩)
theorem VRel.mono {ρ ρ' : Ro} (hr : ρ.le ρ') {v : V} {x : Value} (h : VRel θ ρ v x) : VRel θ ρ' v x := by
  cases v <;> simp only [VRel] at h ⊢ <;> first
    | exact ARel.mono hr h
    | (obtain ⟨xs, e, t⟩ := h; exact ⟨xs, e, t.mono fun _ _ => ARel.mono hr⟩)
theorem MRel.mono {ρ ρ' : Ro} (hr : ρ.le ρ') {e : ME} {x : MapEntry} (h : MRel θ ρ e x) : MRel θ ρ' e x :=
  ⟨h.1.mono hr, h.2.1.mono hr, h.2.2⟩
/-- An object stays what it was where its place's contents did not change. -/
theorem ORel.mono {ρ ρ' : Ro} (hr : ρ.le ρ') {w w' : World} {b : Nat} {o : AObj} (h : ORel θ ρ w b o)
    (hw : ∀ p, ρ b = some p → w'.heap[p.blk]? = w.heap[p.blk]?) : ORel θ ρ' w' b o := by
  obtain ⟨p, hp, h⟩ := h
  have e := hw p hp
  refine ⟨p, hr _ _ hp, ?_⟩
  cases o with
  | blk cs len t =>
    simp only at h ⊢
    obtain ⟨hl, c, ty, fr, hc, hf, hs, hv, ht⟩ := h
    exact ⟨hl, c, ty, fr, by rw [e]; exact hc, hf, hs, fun i v hi => let ⟨x, h1, h2⟩ := hv i v hi; ⟨x, h1, h2.mono hr⟩, ht⟩
  | map es clock =>
    simp only at h ⊢
    obtain ⟨xs, hx, t⟩ := h
    exact ⟨xs, by rw [e]; exact hx, t.mono fun _ _ => MRel.mono hr⟩
  | mit m since seen last =>
    simp only at h ⊢
    obtain ⟨hb, q, hq, hx⟩ := h
    exact ⟨hb, q, hr _ _ hq, by rw [e]; exact hx⟩
  | sit s n pos =>
    simp only at h ⊢
    exact ⟨h.1, h.2.1, h.2.2.1, by rw [e]; exact h.2.2.2⟩

theorem ORel.place {ρ : Ro} {w : World} {b : Nat} {o : AObj} (h : ORel θ ρ w b o) : ∃ p, ρ b = some p := ⟨_, h.choose_spec.1⟩

theorem Fram.refl (ρ : Ro) (h : Heap) (w : World) : Fram ρ h w ρ h w := ⟨Nat.le_refl _, fun _ _ hn => ⟨rfl, hn⟩, Nat.le_refl _, fun _ _ hn => ⟨hn, rfl⟩, fun _ _ hz _ _ => hz, rfl, rfl⟩
theorem Fram.trans {ρ ρ' ρ'' : Ro} {h h' h'' : Heap} {w w' w'' : World} (a : Fram ρ h w ρ' h' w') (b : Fram ρ' h' w' ρ'' h'' w'') : Fram ρ h w ρ'' h'' w'' :=
  ⟨Nat.le_trans a.grow b.grow, fun q hq hn => by
    obtain ⟨e1, n1⟩ := a.keep q hq hn
    obtain ⟨e2, n2⟩ := b.keep q (Nat.lt_of_lt_of_le hq a.grow) n1
    exact ⟨e2.trans e1, n2⟩, Nat.le_trans a.next b.next, fun x hx hn => by
    obtain ⟨n1, e1⟩ := a.ghost x hx hn
    obtain ⟨n2, e2⟩ := b.ghost x (Nat.lt_of_lt_of_le hx a.next) n1
    exact ⟨n2, e2.trans e1⟩, fun q c hz hq hn => a.frz q c (b.frz q c hz (Nat.lt_of_lt_of_le hq a.grow) (a.keep q hq hn).2) hq hn, b.io.1.trans a.io.1, b.io.2.trans a.io.2⟩

/-- Worlds with the same memory. -/
theorem HRel.same {ρ : Ro} {h : Heap} {w w' : World} (hw : w'.heap = w.heap) (hr : HRel θ ρ h w) : HRel θ ρ h w' :=
  ⟨fun b p hp => by rw [hw]; exact hr.dom b p hp, fun b o p ho hp => (hr.obj b o p ho hp).mono (Ro.le_refl _) fun p _ => by rw [hw], hr.inj, fun q c hz => by rw [hw]; exact hr.frz q c hz⟩
theorem Fram.same {ρ ρ' : Ro} {h h' : Heap} {w w1 w' : World} (hw : w1.heap = w.heap) (hio : w1.os = w.os ∧ w1.output = w.output) (f : Fram ρ h w1 ρ' h' w') : Fram ρ h w ρ' h' w' :=
  ⟨by rw [← hw]; exact f.grow, fun q hq hn => by rw [← hw] at hq ⊢; exact f.keep q hq hn, f.next, f.ghost, fun q c hz hq hn => f.frz q c hz (by rw [hw]; exact hq) hn, f.io.1.trans hio.1, f.io.2.trans hio.2⟩

/-- A new block. -/
theorem HRel.fresh {ρ : Ro} {h : Heap} {w : World} (hr : HRel θ ρ h w) : ρ h.next = none := by
  cases e : ρ h.next with
  | none => rfl
  | some p => exact absurd (hr.dom _ _ e).1 (Nat.lt_irrefl _)
def World.push (w : World) (o : Obj) : World := { w with heap := w.heap.push o }

theorem HRel.new {ρ : Ro} {h : Heap} {w : World} (hr : HRel θ ρ h w) (o : AObj) (x : Obj) (p : Pl) (hp : p.blk = w.heap.size)
    (ho : ORel θ (ρ.ext h.next p) (World.push w x) h.next o) :
    HRel θ (ρ.ext h.next p) (h.new o) (World.push w x) ∧ Fram ρ h w (ρ.ext h.next p) (h.new o) (World.push w x) ∧ ρ.le (ρ.ext h.next p) := by
  have hle := Ro.le_ext p hr.fresh
  have hold : ∀ b q, ρ b = some q → (World.push w x).heap[q.blk]? = w.heap[q.blk]? := fun b q hq => by
    have := (hr.dom b q hq).2
    show (w.heap.push x)[q.blk]? = _
    rw [Array.getElem?_push_lt this, Array.getElem?_eq_getElem this]
  have hown : ∀ q, q < w.heap.size → ¬ Own ρ h q → ¬ Own (ρ.ext h.next p) (h.new o) q := by
    rintro q hq hn ⟨b, r, o', hb, hrr, e⟩
    rw [Heap.get_new] at hb
    by_cases eb : b = h.next
    · rw [eb, Ro.ext_same] at hrr; injection hrr with hrr; subst hrr; omega
    · rw [Ro.ext_ne _ _ eb] at hrr; rw [if_neg eb] at hb
      exact hn ⟨b, r, o', hb, hrr, e⟩
  refine ⟨⟨?_, ?_, ?_, ?_⟩, ⟨?_, ?_, Nat.le_succ _, fun b hb hn => ?_, fun q c hz _ _ => hz, rfl, rfl⟩, hle⟩
  · intro b q hq
    show b < h.next + 1 ∧ q.blk < (w.heap.push x).size
    rw [Array.size_push]
    rw [Ro.ext_eq] at hq
    by_cases e : b = h.next
    · rw [if_pos e] at hq; injection hq with hq; subst hq; omega
    · rw [if_neg e] at hq; have := hr.dom b q hq; omega
  · intro b o' q0 hb hq0
    rw [Heap.get_new] at hb
    by_cases e : b = h.next
    · rw [if_pos e] at hb; injection hb with hb; subst hb; rw [e]; exact ho
    · rw [if_neg e] at hb
      rw [Ro.ext_ne _ _ e] at hq0
      exact (hr.obj b o' q0 hb hq0).mono hle fun q hq => hold b q hq
  · intro a b q r o1 o2 ha hb hq hrr he
    rw [Heap.get_new] at ha hb
    rw [Ro.ext_eq] at hq hrr
    by_cases ea : a = h.next <;> by_cases eb : b = h.next
    · rw [ea, eb]
    · rw [if_pos ea] at hq; rw [if_neg eb] at hrr
      injection hq with hq; subst hq
      have := (hr.dom b r hrr).2; omega
    · rw [if_neg ea] at hq; rw [if_pos eb] at hrr
      injection hrr with hrr; subst hrr
      have := (hr.dom a q hq).2; omega
    · rw [if_neg ea] at hq ha; rw [if_neg eb] at hrr hb
      exact hr.inj a b q r o1 o2 ha hb hq hrr he
  · intro q c hz
    obtain ⟨⟨e, fr, h1⟩, h2⟩ := hr.frz q c hz
    have hlt := (Array.getElem?_eq_some_iff.1 h1).1
    refine ⟨⟨e, fr, ?_⟩, hown q hlt h2⟩
    show (w.heap.push x)[q]? = _
    rw [Array.getElem?_push_lt hlt, ← h1, Array.getElem?_eq_getElem hlt]
  · show w.heap.size ≤ (w.heap.push x).size; simp
  · intro q hq hn
    refine ⟨?_, ?_⟩
    · show (w.heap.push x)[q]? = _
      rw [Array.getElem?_push_lt hq, Array.getElem?_eq_getElem hq]
    · exact hown q hq hn
  · have e : b ≠ h.next := by omega
    exact ⟨by rw [Ro.ext_ne _ _ e]; exact hn, by rw [Heap.get_new, if_neg e]⟩

/-- An object is changed in its place. -/
theorem HRel.put {ρ : Ro} {h : Heap} {w : World} (hr : HRel θ ρ h w) {b : Nat} {o0 o : AObj} {p : Pl} (hb : h.get b = some o0) (hp : ρ b = some p) (x : Obj)
    (ho : ORel θ ρ { w with heap := w.heap.setIfInBounds p.blk x } b o) :
    HRel θ ρ (h.put b o) { w with heap := w.heap.setIfInBounds p.blk x } ∧ Fram ρ h w ρ (h.put b o) { w with heap := w.heap.setIfInBounds p.blk x } := by
  have hold : ∀ a q o', h.get a = some o' → a ≠ b → ρ a = some q → (w.heap.setIfInBounds p.blk x)[q.blk]? = w.heap[q.blk]? := fun a q o' ha hab hq => by
    rw [Array.getElem?_setIfInBounds_ne]
    intro e
    exact hab (hr.inj a b q p o' o0 ha hb hq hp e.symm)
  have hown : ∀ q, ¬ Own ρ h q → ¬ Own ρ (h.put b o) q := by
    rintro q hn ⟨a, r, o', ha, hrr, e⟩
    rw [Heap.get_put] at ha
    by_cases ea : a = b
    · rw [ea] at hrr; rw [hp] at hrr; injection hrr with hrr; subst hrr
      exact hn ⟨b, p, o0, hb, hp, e⟩
    · rw [if_neg ea] at ha; exact hn ⟨a, r, o', ha, hrr, e⟩
  refine ⟨⟨?_, ?_, ?_, ?_⟩, ⟨?_, ?_, Nat.le_refl _, fun x hx hn => ⟨hn, ?_⟩, fun q c hz _ _ => hz, rfl, rfl⟩⟩
  · intro a q hq; simpa using hr.dom a q hq
  · intro a o' q0 ha hq0
    rw [Heap.get_put] at ha
    by_cases e : a = b
    · rw [if_pos e] at ha; injection ha with ha; subst ha; rw [e]; exact ho
    · rw [if_neg e] at ha
      exact (hr.obj a o' q0 ha hq0).mono (Ro.le_refl _) fun q hq => hold a q o' ha e hq
  · intro a c q r o1 o2 ha hc hq hrr he
    rw [Heap.get_put] at ha hc
    have fa : ∃ o', h.get a = some o' := by
      by_cases e : a = b
      · exact ⟨o0, by rw [e]; exact hb⟩
      · rw [if_neg e] at ha; exact ⟨_, ha⟩
    have fc : ∃ o', h.get c = some o' := by
      by_cases e : c = b
      · exact ⟨o0, by rw [e]; exact hb⟩
      · rw [if_neg e] at hc; exact ⟨_, hc⟩
    obtain ⟨oa, fa⟩ := fa
    obtain ⟨oc, fc⟩ := fc
    exact hr.inj a c q r oa oc fa fc hq hrr he
  · intro q c hz
    obtain ⟨⟨e, fr, h1⟩, h2⟩ := hr.frz q c hz
    refine ⟨⟨e, fr, ?_⟩, hown q h2⟩
    show (w.heap.setIfInBounds p.blk x)[q]? = _
    rw [Array.getElem?_setIfInBounds_ne]
    · exact h1
    · intro e'
      exact h2 ⟨b, p, o0, hb, hp, e'⟩
  · simp
  · intro q hq hn
    refine ⟨?_, ?_⟩
    · show (w.heap.setIfInBounds p.blk x)[q]? = _
      rw [Array.getElem?_setIfInBounds_ne]
      intro e
      exact hn ⟨b, p, o0, hb, hp, e⟩
    · exact hown q hn
  · rw [Heap.get_put, if_neg (fun e => by rw [e, hp] at hn; cases hn)]

/-- An object is forgotten. -/
theorem HRel.del {ρ : Ro} {h : Heap} {w : World} (hr : HRel θ ρ h w) (b : Nat) : HRel θ ρ (h.del b) w := by
  have sub : ∀ a o, (h.del b).get a = some o → h.get a = some o := fun a o ha => by
    rw [Heap.get_del] at ha
    by_cases e : a = b
    · rw [if_pos e] at ha; cases ha
    · rw [if_neg e] at ha; exact ha
  exact ⟨hr.dom, fun a o p ha hp => hr.obj a o p (sub a o ha) hp, fun a c q r o1 o2 ha hc => hr.inj a c q r o1 o2 (sub _ _ ha) (sub _ _ hc), fun q c hz => ⟨(hr.frz q c hz).1, fun ⟨a, p, o, ha, hp, e⟩ => (hr.frz q c hz).2 ⟨a, p, o, sub _ _ ha, hp, e⟩⟩⟩

end
end Go.Ev
end

section
set_option autoImplicit false
namespace Go.Ev
variable {θ : Nat → Int}

theorem addr_add (b o j : Nat) : (⟨b, o, none⟩ : Addr).add j = ⟨b, o + j, none⟩ := by
  unfold Addr.add
  by_cases h : j = 0
  · simp [h]
  · simp [h]
theorem cell_of {w : World} {q : Nat} {c : Array Value} {e : TypeId} {fr : Nat × Nat} (h : w.heap[q]? = some (.cells c e fr)) (o : Nat) :
    w.cell? ⟨q, o, none⟩ = c[o]? := by simp [World.cell?, h]
theorem frozen_of {w : World} {q : Nat} {c : Array Value} {e : TypeId} {fr : Nat × Nat} (h : w.heap[q]? = some (.cells c e fr)) (hf : noFreeze fr) (o : Nat) :
    w.frozen? ⟨q, o, none⟩ = false := by
  obtain ⟨a, b⟩ := fr
  unfold World.frozen?
  simp only [h]
  have := hf o
  simp only [Bool.and_eq_false_iff, decide_eq_false_iff_not]
  exact Classical.not_and_iff_not_or_not.1 this
theorem shape_of {w : World} {q : Nat} {c : Array Value} {e : TypeId} {fr : Nat × Nat} (h : w.heap[q]? = some (.cells c e fr)) :
    w.shape? q = some (e, c.size) := by simp [World.shape?, h]

/-! ### reading -/
theorem rd_eq {c : List V} {len off n : Nat} {vs : List V} (hl : c.length = len) (h : rd c len off n = some vs) : off + n ≤ len ∧ vs = (c.drop off).take n := by
  unfold rd at h
  obtain ⟨h1, h2⟩ := bsel_bad_opt h
  rw [nble_iff, decide_eq_true_iff] at h1
  refine ⟨h1, ?_⟩
  injection h2 with h2
  rw [← h2, bsel_eq, takeV_eq, dropV_eq]
  split
  · rename_i hb
    simp [nbeq_iff] at hb
    rw [hb.1, List.drop_zero, List.take_of_length_le (by omega)]
  · rfl
/-- what lies at a place -/
structure Lies (θ : Nat → Int) (ρ : Ro) (w : World) (q o : Nat) (vs : List V) (xs : List Value) : Prop where
  rel : All2 (CRel θ ρ) vs xs
  cell : ∀ (j : Nat) (x : Value), xs[j]? = some x → w.cell? ⟨q, o + j, none⟩ = some x

theorem lies_of_rd {ρ : Ro} {w : World} {b : Nat} {c : List V} {len : Nat} {t : Tail} (ho : ORel θ ρ w b (.blk c len t)) {off n : Nat} {vs : List V}
    (h : rd c len off n = some vs) : ∃ p xs, ρ b = some p ∧ vs.length = n ∧ Lies θ ρ w p.blk (p.base + off) vs xs := by
  obtain ⟨p, hp, hl, a, e, fr, ha, hf, hs, hv, _⟩ := ho
  obtain ⟨h1, rfl⟩ := rd_eq hl h
  have hlen : ((c.drop off).take n).length = n := by simp; omega
  refine ⟨p, (a.toList.drop (p.base + off)).take n, hp, hlen, ?_, ?_⟩
  · refine All2.of_get ?_ ?_
    · simp only [List.length_take, List.length_drop, Array.length_toList]; omega
    · intro i v hi
      have hin : i < n := by
        have := (List.getElem?_eq_some_iff.1 hi).1; omega
      rw [List.getElem?_take, if_pos hin, List.getElem?_drop] at hi ⊢
      obtain ⟨x, hx, hr⟩ := hv (off + i) v hi
      refine ⟨x, ?_, hr⟩
      rw [Array.getElem?_toList, show p.base + off + i = p.base + (off + i) by omega]
      exact hx
  · intro j x hj
    have hin : j < n := by
      have := (List.getElem?_eq_some_iff.1 hj).1
      simp at this; omega
    rw [List.getElem?_take, if_pos hin, List.getElem?_drop, Array.getElem?_toList] at hj
    rw [cell_of ha]; exact hj
theorem run_loadCells_lies {P : Program} {ρ : Ro} {w : World} {q o : Nat} {vs : List V} {xs : List Value} (h : Lies θ ρ w q o vs xs) :
    (loadCells ⟨q, o, none⟩ vs.length).run P w = .ok xs.toArray w := by
  rw [h.rel.length]
  exact run_loadCells_list w _ xs fun j v hv => by rw [addr_add]; exact h.cell j v hv

/-! ### memory that does not change -/
theorem crel_fz {ρ : Ro} {l : List V} {n : Nat} {x : Value} (h : CRel θ ρ (.fz l n) x) : ∃ q o cap c, x = .slice (some ⟨q, o, none⟩) n cap ∧ n ≤ cap ∧ ρ.fz q = some c ∧ ZRels θ ρ.fz l c o := by
  simpa only [CRel, ZRel] using h
theorem crel_fz_mk {ρ : Ro} {l : List V} {n q o cap : Nat} {c : Array Value} (h1 : n ≤ cap) (h2 : ρ.fz q = some c) (h3 : ZRels θ ρ.fz l c o) : CRel θ ρ (.fz l n) (.slice (some ⟨q, o, none⟩) n cap) := by
  simp only [CRel, ZRel]; exact ⟨q, o, cap, c, rfl, h1, h2, h3⟩
theorem crel_fx {ρ : Ro} {l : List V} {n : Nat} {x : Value} (h : CRel θ ρ (.fx l n) x) : ∃ q o c, x = .slice (some ⟨q, o, none⟩) n n ∧ ρ.fz q = some c ∧ ZRels θ ρ.fz l c o := by
  simpa only [CRel, ZRel] using h
theorem crel_fx_mk {ρ : Ro} {l : List V} {n q o : Nat} {c : Array Value} (h2 : ρ.fz q = some c) (h3 : ZRels θ ρ.fz l c o) : CRel θ ρ (.fx l n) (.slice (some ⟨q, o, none⟩) n n) := by
  simp only [CRel, ZRel]; exact ⟨q, o, c, rfl, h2, h3⟩
theorem crel_fp {ρ : Ro} {l : List V} {x : Value} (h : CRel θ ρ (.fp l) x) : ∃ q o c, x = .pointer (some ⟨q, o, none⟩) ∧ ρ.fz q = some c ∧ ZRels θ ρ.fz l c o := by
  simpa only [CRel, ZRel] using h
theorem crel_fp_mk {ρ : Ro} {l : List V} {q o : Nat} {c : Array Value} (h2 : ρ.fz q = some c) (h3 : ZRels θ ρ.fz l c o) : CRel θ ρ (.fp l) (.pointer (some ⟨q, o, none⟩)) := by
  simp only [CRel, ZRel]; exact ⟨q, o, c, rfl, h2, h3⟩
/-- the first n of the cells that lie in such memory -/
theorem lies_of_take {ρ : Ro} {h : Heap} {w : World} (hr : HRel θ ρ h w) {q o n : Nat} {c : Array Value} {l vs : List V} (hq : ρ.fz q = some c) (hz : ZRels θ ρ.fz l c o) (ht : takeO n l = some vs) :
    ∃ xs, vs.length = n ∧ Lies θ ρ w q o vs xs := by
  obtain ⟨h1, rfl⟩ := takeO_eq n l vs ht
  obtain ⟨⟨e, fr, hc⟩, _⟩ := hr.frz q c hq
  have hlen : (l.take n).length = n := by simp; omega
  have hget : ∀ (i : Nat) (v : V), (l.take n)[i]? = some v → ∃ y, c[o + i]? = some y ∧ ZRel θ ρ.fz v y := fun i v hi => zrels_get (zrels_take n hz) hi
  have hsz : ∀ i, i < n → o + i < c.size := fun i hi => by
    obtain ⟨y, hy, _⟩ := hget i _ (List.getElem?_eq_getElem (by omega : i < (l.take n).length))
    exact (Array.getElem?_eq_some_iff.1 hy).1
  have hle : n = 0 ∨ o + n ≤ c.size := by
    cases n with
    | zero => exact .inl rfl
    | succ n => exact .inr (by have := hsz n (by omega); omega)
  refine ⟨(c.toList.drop o).take n, hlen, ?_, ?_⟩
  · refine All2.of_get ?_ ?_
    · simp only [List.length_take, List.length_drop, Array.length_toList]; omega
    · intro i v hi
      obtain ⟨y, hy, hv⟩ := hget i v hi
      have hin : i < n := by have := (List.getElem?_eq_some_iff.1 hi).1; omega
      refine ⟨y, ?_, zrel_crel hv⟩
      rw [List.getElem?_take, if_pos hin, List.getElem?_drop, Array.getElem?_toList]; exact hy
  · intro j x hj
    have hin : j < n := by
      have := (List.getElem?_eq_some_iff.1 hj).1
      simp at this; omega
    rw [List.getElem?_take, if_pos hin, List.getElem?_drop, Array.getElem?_toList] at hj
    rw [cell_of hc]; exact hj

/-! ### types -/
section
variable {P : Program}
theorem run_typeInfo {t : TypeId} {i : TypeInfo} (h : P.info? t = some i) (w : World) : (typeInfo t).run P w = .ok i w := by
  simp [typeInfo, h]
theorem run_underlying {t : TypeId} {d : TypeDesc} (h : P.underlying t = some d) (w : World) : (underlying t).run P w = .ok d w := by
  simp [underlying, h]
theorem run_sizeOf {t : TypeId} {n : Nat} (h : szOf P t = some n) (w : World) : (sizeOf t).run P w = .ok n w := by
  unfold szOf at h
  cases hi : P.info? t with
  | none => rw [hi] at h; cases h
  | some i => rw [hi] at h; injection h with h; simp [sizeOf, run_typeInfo hi, h]
theorem run_isAgg {t : TypeId} {b : Bool} (h : isAggT P t = some b) (w : World) : (isAgg t).run P w = .ok b w := by
  unfold isAggT at h
  cases hu : P.underlying t with
  | none => rw [hu] at h; cases h
  | some d =>
    rw [hu] at h
    cases d <;> simp only [Option.some.injEq] at h <;> simp [isAgg, run_underlying hu, h]
end

/-! ### constants -/
theorem absCell_rel {x : Value} {v : V} (h : absCell x = some v) (ρ : Ro) : CRel θ ρ v x := by
  cases x <;> simp only [absCell, reduceCtorEq, Option.some.injEq] at h
  case bool b => subst h; rfl
  case int k n => subst h; rfl
  case string s =>
    subst h
    refine ⟨by simp [bytesV], ?_, ?_⟩
    · intro u hu
      obtain ⟨b, _, rfl⟩ := List.mem_map.1 hu
      exact ⟨by omega, by have := b.toNat_lt; omega⟩
    have : (bytesV s.data.toList).map (byteV θ) = s.data.toList := by
      unfold bytesV
      rw [List.map_map]
      conv => rhs; rw [← List.map_id s.data.toList]
      apply List.map_congr_left
      intro b _
      simp [byteV]
    unfold strOf
    rw [this]
  case pointer a => cases a <;> simp only [reduceCtorEq, Option.some.injEq] at h; subst h; rfl
  case slice a n c =>
    cases a <;> simp only [reduceCtorEq] at h
    obtain ⟨h1, h2⟩ := bsel_bad_opt h
    injection h2 with h2; subst h2
    simp [nbeq_iff] at h1
    rw [h1.1, h1.2]; rfl
  case map a => cases a <;> simp only [reduceCtorEq, Option.some.injEq] at h; subst h; rfl
  case func f xs ys =>
    cases f <;> simp only [reduceCtorEq] at h
    obtain ⟨h1, h2⟩ := bsel_bad_opt h
    injection h2 with h2; subst h2
    simp [nbeq_iff] at h1
    rw [h1.1, h1.2]
    exact ⟨#[], rfl, .nil⟩
  case nilFunc => subst h; rfl
theorem optAll_rel {α β : Type} {f : α → Option β} {R : β → α → Prop} (hf : ∀ a b, f a = some b → R b a) : ∀ {l : List α} {m : List β}, optAll f l = some m → All2 R m l
  | [], m, h => by simp [optAll] at h; subst h; exact .nil
  | a :: l, m, h => by
    unfold optAll at h
    split at h
    · rename_i y hy
      split at h
      · rename_i ys hys
        injection h with h; subst h
        exact .cons (hf _ _ hy) (optAll_rel hf hys)
      · cases h
    · cases h
theorem absCell_cell {x : Value} {v : V} (h : absCell x = some v) : (∀ n cs, v ≠ .agg n cs) ∧ (∀ l, v ≠ .tup l) := by
  have := absCell_rel (θ := fun _ => 0) h ⟨fun _ => none, fun _ => none⟩
  refine ⟨fun n cs e => ?_, fun l e => ?_⟩
  · subst e; exact this
  · subst e; exact this
theorem crel_arel {ρ : Ro} {v : V} {x : Value} (h : CRel θ ρ v x) : ARel θ ρ v x := by
  cases v <;> first
    | exact h
    | exact h.elim
theorem arel_vrel {ρ : Ro} {v : V} {x : Value} (h : ARel θ ρ v x) : VRel θ ρ v x := by
  cases v <;> first
    | exact h
    | exact h.elim
theorem crel_vrel {ρ : Ro} {v : V} {x : Value} (h : CRel θ ρ v x) : VRel θ ρ v x := arel_vrel (crel_arel h)
theorem absV_rel {x : Value} {v : V} (h : absV x = some v) (ρ : Ro) : ARel θ ρ v x := by
  unfold absV at h
  split at h
  · rename_i cs
    split at h
    · rename_i l hl
      injection h with h; subst h
      exact ⟨rfl, cs, rfl, optAll_rel (fun _ _ hh => absCell_rel hh ρ) hl⟩
    · cases h
  · exact crel_arel (absCell_rel h ρ)
theorem absV_notup {x : Value} {v : V} (h : absV x = some v) : ∀ l, v ≠ .tup l := by
  unfold absV at h
  split at h
  · split at h
    · injection h with h; subst h; intro l e; cases e
    · cases h
  · exact (absCell_cell h).2

/-! ### cells of a value -/
theorem cellsOfV_rel {ρ : Ro} {v : V} {x : Value} {n : Nat} {cs : List V} (h : cellsOfV v = some (n, cs)) (hr : VRel θ ρ v x) :
    cs.length = n ∧ All2 (CRel θ ρ) cs x.cells.toList := by
  have key : ∀ {v : V} {x : Value}, CRel θ ρ v x → [v].length = 1 ∧ All2 (CRel θ ρ) [v] x.cells.toList := fun {v x} hr => by
    refine ⟨rfl, ?_⟩
    have : x.cells.toList = [x] := by
      cases v <;> simp only [CRel] at hr
      case ptr => obtain ⟨p, _, rfl⟩ := hr; rfl
      case slice => obtain ⟨p, _, rfl⟩ := hr; rfl
      case str => obtain ⟨_, _, rfl⟩ := hr; rfl
      case map => obtain ⟨p, _, rfl⟩ := hr; rfl
      case func => obtain ⟨p, rfl, _⟩ := hr; rfl
      case sym => obtain ⟨_, rfl⟩ := hr; rfl
      case any => obtain ⟨_, _, _, rfl⟩ := hr; rfl
      case fz => simp only [ZRel] at hr; obtain ⟨q, o, cap, c, rfl, _⟩ := hr; rfl
      case fp => simp only [ZRel] at hr; obtain ⟨q, o, c, rfl, _⟩ := hr; rfl
      case fx => simp only [ZRel] at hr; obtain ⟨q, o, c, rfl, _⟩ := hr; rfl
      case fe => obtain ⟨p, rfl⟩ := hr; rfl
      case ord =>
        simp only [ZRel] at hr
        obtain ⟨_, _, ⟨_, rfl⟩ | ⟨q, o, n, cap, c, rfl, _⟩⟩ := hr <;> rfl
      all_goals (subst hr; rfl)
    rw [this]; exact .cons hr .nil
  cases v <;> simp only [cellsOfV, Option.some.injEq, Prod.mk.injEq, reduceCtorEq] at h
  case agg m l =>
    obtain ⟨rfl, rfl⟩ := h
    obtain ⟨hn, xs, rfl, t⟩ := hr
    exact ⟨hn, t⟩
  all_goals (obtain ⟨rfl, rfl⟩ := h; exact key hr)
/-- the value of a cell is one cell, in the model's own test -/
theorem crel_oneCell {ρ : Ro} {v : V} {x : Value} (h : CRel θ ρ v x) : x.oneCell' = true := by
  cases v <;> simp only [CRel] at h
  case ptr => obtain ⟨p, _, rfl⟩ := h; rfl
  case slice => obtain ⟨p, _, rfl⟩ := h; rfl
  case str => obtain ⟨_, _, rfl⟩ := h; rfl
  case map => obtain ⟨p, _, rfl⟩ := h; rfl
  case func => obtain ⟨p, rfl, _⟩ := h; rfl
  case sym => obtain ⟨_, rfl⟩ := h; rfl
  case any => obtain ⟨_, _, _, rfl⟩ := h; rfl
  case fz => simp only [ZRel] at h; obtain ⟨q, o, cap, c, rfl, _⟩ := h; rfl
  case fp => simp only [ZRel] at h; obtain ⟨q, o, c, rfl, _⟩ := h; rfl
  case fx => simp only [ZRel] at h; obtain ⟨q, o, c, rfl, _⟩ := h; rfl
  case fe => obtain ⟨p, rfl⟩ := h; rfl
  case ord =>
    simp only [ZRel] at h
    obtain ⟨_, _, ⟨_, rfl⟩ | ⟨q, o, n, cap, c, rfl, _⟩⟩ := h <;> rfl
  all_goals (first | (subst h; rfl) | exact h.elim)
end Go.Ev
end

section
set_option autoImplicit false
namespace Go.Ev
variable {θ : Nat → Int}

/-! ### symbolic integers -/
theorem iMul_eq (a b : Int) : iMul a b = a * b := rfl
theorem stLo_ok {t : ST} (h : t.Ok θ) : stLo t ≤ t.eval θ := by
  obtain ⟨k, v, lo, hi⟩ := t
  obtain ⟨h1, h2⟩ := h
  simp only [stLo, bsel_eq, intLt_eq, decide_eq_true_eq, iMul_eq, ST.eval]
  split
  · exact Int.mul_le_mul_of_nonpos_left (by omega) h2
  · exact Int.mul_le_mul_of_nonneg_left h1 (by omega)
theorem stHi_ok {t : ST} (h : t.Ok θ) : t.eval θ ≤ stHi t := by
  obtain ⟨k, v, lo, hi⟩ := t
  obtain ⟨h1, h2⟩ := h
  simp only [stHi, bsel_eq, intLt_eq, decide_eq_true_eq, iMul_eq, ST.eval]
  split
  · exact Int.mul_le_mul_of_nonpos_left (by omega) h1
  · exact Int.mul_le_mul_of_nonneg_left h2 (by omega)
theorem okT_cons {t : ST} {l : List ST} : OkT θ (t :: l) ↔ t.Ok θ ∧ OkT θ l := by
  unfold OkT; simp
theorem okT_nil : OkT θ [] := fun _ h => by cases h
theorem loT_ok : ∀ {l : List ST}, OkT θ l → loT l ≤ evT θ l
  | [], _ => Int.le_refl _
  | t :: l, h => by
    rw [okT_cons] at h
    have := stLo_ok h.1
    have := loT_ok h.2
    simp only [loT, iAdd_eq, evT]; omega
theorem hiT_ok : ∀ {l : List ST}, OkT θ l → evT θ l ≤ hiT l
  | [], _ => Int.le_refl _
  | t :: l, h => by
    rw [okT_cons] at h
    have := stHi_ok h.1
    have := hiT_ok h.2
    simp only [hiT, iAdd_eq, evT]; omega
theorem seLo_ok {e : SE} (h : e.Ok θ) : seLo e ≤ e.eval θ := by
  obtain ⟨c, ts⟩ := e
  have := loT_ok (θ := θ) (l := ts) h
  simp only [seLo, iAdd_eq, SE.eval]; omega
theorem seHi_ok {e : SE} (h : e.Ok θ) : e.eval θ ≤ seHi e := by
  obtain ⟨c, ts⟩ := e
  have := hiT_ok (θ := θ) (l := ts) h
  simp only [seHi, iAdd_eq, SE.eval]; omega
theorem addT_ok {k : Int} {v : Nat} {lo hi : Int} (h0 : lo ≤ θ v ∧ θ v ≤ hi) : ∀ {l : List ST}, OkT θ l → OkT θ (addT k v lo hi l) ∧ evT θ (addT k v lo hi l) = k * θ v + evT θ l
  | [], _ => ⟨okT_cons.2 ⟨h0, okT_nil⟩, rfl⟩
  | .mk k' v' lo' hi' :: l, h => by
    rw [okT_cons] at h
    obtain ⟨ih1, ih2⟩ := addT_ok h0 h.2
    simp only [addT, bsel_eq, nbeq_iff, decide_eq_true_eq, intEq_eq, beq_iff_eq, iAdd_eq]
    split
    · rename_i e; subst e
      split
      · rename_i e2
        refine ⟨h.2, ?_⟩
        have : k * θ v + k' * θ v = 0 := by rw [← Int.add_mul, e2, Int.zero_mul]
        simp only [evT, ST.eval]; omega
      · refine ⟨okT_cons.2 ⟨h.1, h.2⟩, ?_⟩
        simp only [evT, ST.eval, Int.add_mul]; omega
    · refine ⟨okT_cons.2 ⟨h.1, ih1⟩, ?_⟩
      simp only [evT, ST.eval, ih2]; omega
theorem addTs_ok : ∀ {r l : List ST}, OkT θ r → OkT θ l → OkT θ (addTs r l) ∧ evT θ (addTs r l) = evT θ r + evT θ l
  | [], l, _, h => ⟨h, by simp [addTs, evT]⟩
  | .mk k v lo hi :: r, l, h1, h2 => by
    rw [okT_cons] at h1
    obtain ⟨a1, a2⟩ := addT_ok (k := k) h1.1 h2
    obtain ⟨b1, b2⟩ := addTs_ok h1.2 a1
    refine ⟨b1, ?_⟩
    simp only [addTs, b2, a2, evT, ST.eval]; omega
theorem seAdd_ok {a b : SE} (ha : a.Ok θ) (hb : b.Ok θ) : (seAdd a b).Ok θ ∧ (seAdd a b).eval θ = a.eval θ + b.eval θ := by
  obtain ⟨c, ts⟩ := a
  obtain ⟨d, us⟩ := b
  obtain ⟨h1, h2⟩ := addTs_ok (θ := θ) (r := us) (l := ts) hb ha
  refine ⟨h1, ?_⟩
  simp only [seAdd, SE.eval, h2, iAdd_eq]; omega
theorem sclT_ok (m : Int) : ∀ {l : List ST}, OkT θ l → OkT θ (sclT m l) ∧ evT θ (sclT m l) = m * evT θ l
  | [], _ => ⟨okT_nil, by simp [sclT, evT]⟩
  | .mk k v lo hi :: l, h => by
    rw [okT_cons] at h
    obtain ⟨h1, h2⟩ := sclT_ok m h.2
    refine ⟨okT_cons.2 ⟨h.1, h1⟩, ?_⟩
    simp only [sclT, evT, ST.eval, h2, iMul_eq, Int.mul_add, Int.mul_assoc]
theorem seScl_ok (m : Int) {a : SE} (ha : a.Ok θ) : (seScl m a).Ok θ ∧ (seScl m a).eval θ = m * a.eval θ := by
  obtain ⟨c, ts⟩ := a
  obtain ⟨h1, h2⟩ := sclT_ok m (θ := θ) (l := ts) ha
  refine ⟨h1, ?_⟩
  simp only [seScl, SE.eval, h2, iMul_eq, Int.mul_add]
theorem seSub_ok {a b : SE} (ha : a.Ok θ) (hb : b.Ok θ) : (seSub a b).Ok θ ∧ (seSub a b).eval θ = a.eval θ - b.eval θ := by
  obtain ⟨h1, h2⟩ := seScl_ok (-1) hb
  obtain ⟨h3, h4⟩ := seAdd_ok ha h1
  refine ⟨h3, ?_⟩
  unfold seSub; omega
theorem seLt_ok {a b : SE} {r : Bool} (ha : a.Ok θ) (hb : b.Ok θ) (h : seLt a b = some r) : decide (a.eval θ < b.eval θ) = r := by
  obtain ⟨h1, h2⟩ := seSub_ok ha hb
  have l1 := seLo_ok h1
  have l2 := seHi_ok h1
  unfold seLt at h
  rw [bsel_eq, bsel_eq, intLt_eq, intLt_eq] at h
  split at h
  · rename_i e
    injection h with h; subst h
    rw [decide_eq_true_iff] at e
    exact decide_eq_true (by omega)
  · split at h
    · cases h
    · rename_i e
      injection h with h; subst h
      rw [decide_eq_true_iff] at e
      exact decide_eq_false (by omega)
theorem seEq_ok {a b : SE} {r : Bool} (ha : a.Ok θ) (hb : b.Ok θ) (h : seEq a b = some r) : decide (a.eval θ = b.eval θ) = r := by
  obtain ⟨h1, h2⟩ := seSub_ok ha hb
  unfold seEq at h
  cases hd : seSub a b with
  | mk c ts =>
    rw [hd] at h h1 h2
    cases ts with
    | nil =>
      injection h with h; subst h
      have e0 : (SE.mk c []).eval θ = c := by simp [SE.eval, evT]
      rw [e0] at h2
      rw [intEq_eq, Bool.eq_iff_iff, decide_eq_true_iff, beq_iff_eq]
      omega
    | cons t l =>
      simp only at h
      obtain ⟨e, h⟩ := bsel_bad_opt h
      injection h with h; subst h
      have l1 := seLo_ok h1
      have l2 := seHi_ok h1
      rw [bor_eq, Bool.or_eq_true, intLt_eq, intLt_eq, decide_eq_true_iff, decide_eq_true_iff] at e
      exact decide_eq_false (by omega)
theorem isTrue_spec {r : Option Bool} (h : isTrue r = true) : r = some true := by
  cases r with
  | none => cases h
  | some b => cases b <;> first | rfl | cases h
theorem toS_rel {ρ : Ro} {v : V} {k : IntKind} {e : SE} {x : Value} (h : toS v = some (k, e)) (hv : VRel θ ρ v x) : e.Ok θ ∧ x = .int k (e.eval θ) := by
  cases v <;> simp only [toS, reduceCtorEq, Option.some.injEq, Prod.mk.injEq] at h
  · obtain ⟨rfl, rfl⟩ := h
    refine ⟨okT_nil, ?_⟩
    have : x = _ := hv
    rw [this]; simp [SE.eval, evT]
  · obtain ⟨rfl, rfl⟩ := h
    exact hv
theorem inRange_spec {k : IntKind} {lo hi n : Int} (h1 : inRange k lo = true) (h2 : inRange k hi = true) (a : lo ≤ n) (b : n ≤ hi) : k.wrap n = n := by
  have e1 := inRange_wrap h1
  have e2 := inRange_wrap h2
  cases k <;> simp only [IntKind.wrap, IntKind.bits, IntKind.signed] at e1 e2 ⊢ <;> simp at e1 e2 ⊢ <;> omega
theorem mkS_ok {ρ : Ro} {k : IntKind} {e : SE} {v : V} (he : e.Ok θ) (h : mkS k e = some v) : k.wrap (e.eval θ) = e.eval θ ∧ VRel θ ρ v (.int k (e.eval θ)) := by
  obtain ⟨c, ts⟩ := e
  cases ts with
  | nil =>
    simp only [mkS] at h
    obtain ⟨h1, h⟩ := bsel_bad_opt h
    injection h with h; subst h
    have : SE.eval θ (.mk c []) = c := by simp [SE.eval, evT]
    rw [this]
    exact ⟨inRange_wrap h1, rfl⟩
  | cons t l =>
    simp only [mkS] at h
    obtain ⟨h1, h⟩ := bsel_bad_opt h
    injection h with h; subst h
    rw [band_eq, Bool.and_eq_true] at h1
    exact ⟨inRange_spec h1.1 h1.2 (seLo_ok he) (seHi_ok he), he, rfl⟩
theorem toIv_rel {ρ : Ro} {v : V} {k : IntKind} {lo hi : Int} {x : Value} (h : toIv v = some (k, lo, hi)) (hv : VRel θ ρ v x) : ∃ n, lo ≤ n ∧ n ≤ hi ∧ x = .int k n := by
  cases v <;> simp only [toIv, reduceCtorEq, Option.some.injEq, Prod.mk.injEq] at h
  · obtain ⟨rfl, rfl, rfl⟩ := h
    exact ⟨_, Int.le_refl _, Int.le_refl _, hv⟩
  · obtain ⟨rfl, rfl, rfl⟩ := h
    obtain ⟨he, e⟩ := hv
    exact ⟨_, seLo_ok he, seHi_ok he, e⟩
  · obtain ⟨rfl, rfl, rfl⟩ := h
    exact hv
theorem mkIv_ok {ρ : Ro} {k : IntKind} {lo hi n : Int} {v : V} (h : mkIv k lo hi = some v) (h1 : lo ≤ n) (h2 : n ≤ hi) : k.wrap n = n ∧ VRel θ ρ v (.int k n) := by
  obtain ⟨h3, h⟩ := bsel_bad_opt h
  injection h with h; subst h
  rw [band_eq, Bool.and_eq_true] at h3
  exact ⟨inRange_spec h3.1 h3.2 h1 h2, n, h1, h2, rfl⟩
theorem ivLt_ok {a b c d m n : Int} {r : Bool} (h : ivLt a b c d = some r) (h1 : a ≤ m) (h2 : m ≤ b) (h3 : c ≤ n) (h4 : n ≤ d) : decide (m < n) = r := by
  unfold ivLt at h
  rw [bsel_eq, bsel_eq, intLt_eq, intLt_eq] at h
  split at h
  · rename_i e
    injection h with h; subst h
    rw [decide_eq_true_iff] at e
    exact decide_eq_true (by omega)
  · split at h
    · cases h
    · rename_i e
      injection h with h; subst h
      rw [decide_eq_true_iff] at e
      exact decide_eq_false (by omega)
theorem quoT_ok {m : Int} (hm : 0 < m) : ∀ {l : List ST}, OkT θ l → OkT θ (quoT m l) ∧ OkT θ (remT m l) ∧ evT θ l = m * evT θ (quoT m l) + evT θ (remT m l)
  | [], _ => ⟨okT_nil, okT_nil, by simp [quoT, remT, evT]⟩
  | .mk k v lo hi :: l, h => by
    rw [okT_cons] at h
    obtain ⟨h1, h2, h3⟩ := quoT_ok hm h.2
    have hk : k * θ v = m * ((k / m) * θ v) + (k % m) * θ v := by
      rw [← Int.mul_assoc, ← Int.add_mul, Int.mul_ediv_add_emod]
    have e1 : OkT θ (quoT m (.mk k v lo hi :: l)) ∧ evT θ (quoT m (.mk k v lo hi :: l)) = (k / m) * θ v + evT θ (quoT m l) := by
      simp only [quoT, bsel_eq, intEq_eq, beq_iff_eq]
      split
      · rename_i e; rw [e]; exact ⟨h1, by simp⟩
      · exact ⟨okT_cons.2 ⟨h.1, h1⟩, rfl⟩
    have e2 : OkT θ (remT m (.mk k v lo hi :: l)) ∧ evT θ (remT m (.mk k v lo hi :: l)) = (k % m) * θ v + evT θ (remT m l) := by
      simp only [remT, bsel_eq, intEq_eq, beq_iff_eq]
      split
      · rename_i e; rw [e]; exact ⟨h2, by simp⟩
      · exact ⟨okT_cons.2 ⟨h.1, h2⟩, rfl⟩
    refine ⟨e1.1, e2.1, ?_⟩
    rw [e1.2, e2.2, Int.mul_add]
    simp only [evT, ST.eval, h3]; omega
theorem divOk_spec {m : Int} {e : SE} (he : e.Ok θ) (h : divOk m e = true) : 0 < m ∧ 0 ≤ e.eval θ ∧ (seQuo m e).Ok θ ∧ (seRem m e).Ok θ ∧ e.eval θ = m * (seQuo m e).eval θ + (seRem m e).eval θ ∧
    0 ≤ (seRem m e).eval θ ∧ (seRem m e).eval θ < m := by
  unfold divOk at h
  simp only [band_eq, Bool.and_eq_true, intLt_eq, Bool.not_eq_true', decide_eq_true_eq, decide_eq_false_iff_not] at h
  obtain ⟨hm, h0, h1, h2⟩ := h
  have l0 := seLo_ok he
  obtain ⟨c, ts⟩ := e
  obtain ⟨q1, q2, q3⟩ := quoT_ok hm (θ := θ) (l := ts) he
  have q2' : (seRem m (.mk c ts)).Ok θ := q2
  have l1 := seLo_ok q2'
  have l2 := seHi_ok q2'
  refine ⟨hm, by omega, q1, q2, ?_, by omega, by omega⟩
  have := Int.mul_ediv_add_emod c m
  simp only [seQuo, seRem, SE.eval, Int.mul_add]; omega
theorem div_of {a m q r : Int} (hm : 0 < m) (ha : 0 ≤ a) (h : a = m * q + r) (h0 : 0 ≤ r) (h1 : r < m) : a.tdiv m = q ∧ a.tmod m = r := by
  have e1 : a.tdiv m = a / m := Int.tdiv_eq_ediv_of_nonneg ha
  have e2 : a.tmod m = a % m := Int.tmod_eq_emod_of_nonneg ha
  rw [e1, e2, h]
  constructor
  · rw [Int.add_comm, Int.add_mul_ediv_left _ _ (by omega), Int.ediv_eq_zero_of_lt h0 h1, Int.zero_add]
  · rw [Int.add_comm, Int.add_mul_emod_self_left, Int.emod_eq_of_lt h0 h1]
end Go.Ev
end

section
set_option autoImplicit false
namespace Go.Ev

/-! ### the same value -/
theorem stEq_eq {a b : ST} (h : stEq a b = true) : a = b := by
  obtain ⟨k, v, lo, hi⟩ := a
  obtain ⟨k', v', lo', hi'⟩ := b
  simp only [stEq, band_eq, Bool.and_eq_true, intEq_eq, beq_iff_eq, nbeq_iff, decide_eq_true_eq] at h
  obtain ⟨⟨rfl, rfl⟩, rfl, rfl⟩ := h
  rfl
theorem stsEq_eq : ∀ {a b : List ST}, stsEq a b = true → a = b
  | [], [], _ => rfl
  | [], _ :: _, h => by cases h
  | _ :: _, [], h => by cases h
  | x :: a, y :: b, h => by
    simp only [stsEq, band_eq, Bool.and_eq_true] at h
    rw [stEq_eq h.1, stsEq_eq h.2]
theorem seSame_eq {a b : SE} (h : seSame a b = true) : a = b := by
  obtain ⟨c, ts⟩ := a
  obtain ⟨d, us⟩ := b
  simp only [seSame, band_eq, Bool.and_eq_true, intEq_eq, beq_iff_eq] at h
  rw [h.1, stsEq_eq h.2]
mutual
theorem vEq_eq : ∀ {a b : V}, vEq a b = true → a = b
  | .int k a, y, h => by
    cases y <;> simp only [vEq, Bool.false_eq_true, band_eq, Bool.and_eq_true, kindEq_iff, decide_eq_true_eq, intEq_eq, beq_iff_eq] at h
    rw [h.1, h.2]
  | .bool a, y, h => by
    cases y <;> simp only [vEq, Bool.false_eq_true, beq_iff_eq] at h
    rw [h]
  | .ptr a b, y, h => by
    cases y <;> simp only [vEq, Bool.false_eq_true, band_eq, Bool.and_eq_true, nbeq_iff, decide_eq_true_eq] at h
    rw [h.1, h.2]
  | .slice a b c d, y, h => by
    cases d <;> cases y <;> simp only [vEq, Bool.false_eq_true] at h
    all_goals
      rename_i d a' b' c' d'
      cases d' <;> simp only [Bool.false_eq_true, band_eq, Bool.and_eq_true, nbeq_iff, decide_eq_true_eq] at h
      obtain ⟨⟨rfl, rfl⟩, rfl, rfl⟩ := h
      rfl
  | .map a, y, h => by
    cases y <;> simp only [vEq, Bool.false_eq_true, nbeq_iff, decide_eq_true_eq] at h
    rw [h]
  | .nilp, y, h => by cases y <;> simp only [vEq, Bool.false_eq_true] at h; rfl
  | .nils, y, h => by cases y <;> simp only [vEq, Bool.false_eq_true] at h; rfl
  | .nilm, y, h => by cases y <;> simp only [vEq, Bool.false_eq_true] at h; rfl
  | .nilf, y, h => by cases y <;> simp only [vEq, Bool.false_eq_true] at h; rfl
  | .fe, y, h => by cases y <;> simp only [vEq, Bool.false_eq_true] at h; rfl
  | .func f cs, y, h => by
    cases cs <;> simp only [vEq, Bool.false_eq_true] at h
    cases y <;> simp only [Bool.false_eq_true] at h
    rename_i g ds
    cases ds <;> simp only [Bool.false_eq_true, nbeq_iff, decide_eq_true_eq] at h
    rw [h]
  | .sym k a, y, h => by
    cases y <;> simp only [vEq, Bool.false_eq_true, band_eq, Bool.and_eq_true, kindEq_iff, decide_eq_true_eq] at h
    rw [h.1, seSame_eq h.2]
  | .any k a b, y, h => by
    cases y <;> simp only [vEq, Bool.false_eq_true, band_eq, Bool.and_eq_true, kindEq_iff, decide_eq_true_eq, intEq_eq, beq_iff_eq] at h
    rw [h.1, h.2.1, h.2.2]
  | .agg n x, y, h => by
    cases y <;> simp only [vEq, Bool.false_eq_true, band_eq, Bool.and_eq_true, nbeq_iff, decide_eq_true_eq] at h
    rw [h.1, vEqs_eq h.2]
  | .str n x, y, h => by
    cases y <;> simp only [vEq, Bool.false_eq_true, band_eq, Bool.and_eq_true, nbeq_iff, decide_eq_true_eq] at h
    rw [h.1, vEqs_eq h.2]
  | .tup x, y, h => by
    cases y <;> simp only [vEq, Bool.false_eq_true] at h
    rw [vEqs_eq h]
  | .fz x n, y, h => by
    cases y <;> simp only [vEq, Bool.false_eq_true, band_eq, Bool.and_eq_true, nbeq_iff, decide_eq_true_eq] at h
    rw [h.1, vEqs_eq h.2]
  | .fp x, y, h => by
    cases y <;> simp only [vEq, Bool.false_eq_true] at h
    rw [vEqs_eq h]
  | .ord _ _ _, y, h => by cases y <;> simp only [vEq, Bool.false_eq_true] at h
  | .fx _ _, y, h => by cases y <;> simp only [vEq, Bool.false_eq_true] at h
theorem vEqs_eq : ∀ {a b : List V}, vEqs a b = true → a = b
  | [], y, h => by cases y <;> simp only [vEqs, Bool.false_eq_true] at h; rfl
  | a :: x, y, h => by
    cases y <;> simp only [vEqs, Bool.false_eq_true, band_eq, Bool.and_eq_true] at h
    rw [vEq_eq h.1, vEqs_eq h.2]
end
end Go.Ev
end
