import PyProof.Rows.All
import Wide.All
import OpenK.AllK
import Wide.FinOn
import HandS.ForMost
import HandS.Exc
import HandS.Defaults
import HandS.MakeKwOnly
import HandS.Style
import HandS.IsInst
import HandS.SortInts
import HandS.HeadHook4
import HandS.HeadEnd
import HandS.Head2
import HandS.Codes
import HandS.Property
import HandS.ClsMeth
import HandS.HeadNt
import HandS.TupAny
import HandS.TupMul
import HandS.FStr
import PyProof.InstNe
import KE.KCallOwn
import KE.KxField
import KE.GoesMore
import KE.GoesEnum
import HandS.Zip
import HandS.More
import HandS.GenList
import HandS.Deep
import PySem.Challenge.RW_tiednotes_k13_whole_dots_that_cannot_be
set_option Elab.async false
set_option linter.all false
set_option maxRecDepth 100000
set_option maxHeartbeats 4000000
/-! Xl: readings of the hand layer, step by step (own work). -/
namespace Xl
open PySem PySem.Spec PyProof.Rows L2

/-! ### heaps that grow -/
def Ex (H H' : Hp) : Prop := ∀ a o, H a = some o → H' a = some o
theorem Ex.refl (H : Hp) : Ex H H := fun _ _ h => h
theorem Ex.trans {H H1 H2 : Hp} (a : Ex H H1) (b : Ex H1 H2) : Ex H H2 := fun x o h => b x o (a x o h)
theorem Ex.new {H : Hp} {p : Addr} {o : HO} (h : H p = none) : Ex H (upd H p o) := fun a u e => by
  rw [upd_ne (ne_of_none e h)]
  exact e
theorem Ex.mut {H H' : Hp} {p : Addr} {o : HO} (e : Ex H H') (h : H p = none) : Ex H (upd H' p o) := fun a u ha => by
  rw [upd_ne (ne_of_none ha h)]
  exact e a u ha
theorem Ex.back {H H' : Hp} {p : Addr} (e : Ex H H') (h : H' p = none) : H p = none := by
  cases h1 : H p with
  | none => rfl
  | some o =>
    rw [e p o h1] at h
    cases h
theorem Ex.rd {H H' : Hp} {a : Addr} {u : HO} (e : Ex H H') (h : Rd H a u) : Rd H' a u := by
  rcases h with h | ⟨o, h⟩
  · exact Or.inl (e a _ h)
  · exact Or.inr ⟨o, e a _ h⟩
theorem Ex.l {K : PySem.W.Frag} {H H' : Hp} {a : Addr} {xs : List V} (e : Ex H H') (h : SqL K H a xs) : SqL K H' a xs := by
  rcases h with h | h
  · exact Or.inl (e.rd h)
  · exact Or.inr h
theorem Ex.t {K : PySem.W.Frag} {H H' : Hp} {a : Addr} {xs : List V} (e : Ex H H') (h : SqT K H a xs) : SqT K H' a xs := by
  rcases h with h | h
  · exact Or.inl (e.rd h)
  · exact Or.inr h
/-- the heap without what stands at l -/
def wo (H : Hp) (l : Addr) : Hp := fun b => if b = l then none else H b
theorem wo_same {H : Hp} {l : Addr} : wo H l l = none := by unfold wo; rw [if_pos rfl]
theorem wo_ne {H : Hp} {l b : Addr} (h : b ≠ l) : wo H l b = H b := by unfold wo; rw [if_neg h]
theorem wo_ex (H : Hp) (l : Addr) : Ex (wo H l) H := fun a o h => by
  by_cases e : a = l
  · subst e
    rw [wo_same] at h
    cases h
  · rwa [wo_ne e] at h
theorem wo_mono {H H' : Hp} (e : Ex H H') (l : Addr) : Ex (wo H l) (wo H' l) := fun a o h => by
  by_cases q : a = l
  · subst q
    rw [wo_same] at h
    cases h
  · rw [wo_ne q] at h ⊢
    exact e a o h
theorem wo_upd (H : Hp) (l : Addr) (o : HO) : wo (upd H l o) l = wo H l := by
  funext b
  by_cases q : b = l
  · subst q
    rw [wo_same, wo_same]
  · rw [wo_ne q, wo_ne q, upd_ne q]
theorem wo_of {H0 H : Hp} {l : Addr} (e : Ex H0 H) (n : H0 l = none) : Ex H0 (wo H l) := fun a o h => by
  rw [wo_ne (ne_of_none h n)]
  exact e a o h

/-! ### heaps in which what never changes stays -/
def Stab : HO → Bool
  | .tup _ => true
  | .ins _ _ _ => true
  | .frz _ _ => true
  | _ => false
def Im (H H' : Hp) : Prop := ∀ a o, H a = some o → Stab o = true → H' a = some o
theorem Ex.im {H H' : Hp} (e : Ex H H') : Im H H' := fun a o h _ => e a o h
theorem Im.trans {H H1 H2 : Hp} (a : Im H H1) (b : Im H1 H2) : Im H H2 := fun x o h s => b x o (a x o h s) s
theorem Im.set {H : Hp} {l : Addr} {xs : List V} {o : HO} (h : H l = some (.lst xs)) : Im H (upd H l o) := fun a u e s => by
  by_cases q : a = l
  · rw [q, h] at e
    cases e
    cases s
  · rw [upd_ne q]
    exact e
theorem Im.upd {H : Hp} {l : Addr} {u o : HO} (h : H l = some u) (hs : Stab u = false) : Im H (upd H l o) := fun a w e s => by
  by_cases q : a = l
  · rw [q, h] at e
    cases e
    rw [hs] at s
    cases s
  · rw [upd_ne q]
    exact e
theorem Im.t {K : PySem.W.Frag} {H H' : Hp} {a : Addr} {xs : List V} (e : Im H H') (h : SqT K H a xs) : SqT K H' a xs := by
  rcases h with (h | ⟨o, h⟩) | h
  · exact Or.inl (Or.inl (e _ _ h rfl))
  · exact Or.inl (Or.inr ⟨o, e _ _ h rfl⟩)
  · exact Or.inr h

/-! ### data that never changes -/
inductive D where
  | non | bl (b : Bool) | int (i : Int) | str (x : Str)
  | tup (xs : List D)
  | obj (C : Addr) (fs : List (Str × D))
mutual
inductive Rp (K : PySem.W.Frag) (H : Hp) : V → D → Prop
  | non : Rp K H .non .non
  | bl (b : Bool) : Rp K H (.bl b) (.bl b)
  | int (i : Int) : Rp K H (.int i) (.int i)
  | str (x : Str) : Rp K H (.str x) (.str x)
  | tup {a : Addr} {vs : List V} {ds : List D} : SqT K H a vs → RpL K H vs ds → Rp K H (.ref a) (.tup ds)
  | obj {a C dx : Addr} {fs : List (Str × V)} {gs : List (Str × D)} : H a = some (.ins C dx fs) → RpF K H fs gs → Rp K H (.ref a) (.obj C gs)
inductive RpL (K : PySem.W.Frag) (H : Hp) : List V → List D → Prop
  | nil : RpL K H [] []
  | cons {v : V} {vs : List V} {d : D} {ds : List D} : Rp K H v d → RpL K H vs ds → RpL K H (v :: vs) (d :: ds)
inductive RpF (K : PySem.W.Frag) (H : Hp) : List (Str × V) → List (Str × D) → Prop
  | nil : RpF K H [] []
  | cons {f : Str} {v : V} {vs : List (Str × V)} {d : D} {ds : List (Str × D)} : Rp K H v d → RpF K H vs ds → RpF K H ((f, v) :: vs) ((f, d) :: ds)
end
section
variable {K : PySem.W.Frag} {H H' : Hp}
mutual
theorem Rp.im (e : Im H H') : ∀ {v : V} {d : D}, Rp K H v d → Rp K H' v d
  | _, _, .non => .non
  | _, _, .bl b => .bl b
  | _, _, .int i => .int i
  | _, _, .str x => .str x
  | _, _, .tup h r => .tup (e.t h) (RpL.im e r)
  | _, _, .obj h r => .obj (e _ _ h rfl) (RpF.im e r)
theorem RpL.im (e : Im H H') : ∀ {v : List V} {d : List D}, RpL K H v d → RpL K H' v d
  | _, _, .nil => .nil
  | _, _, .cons h r => .cons (Rp.im e h) (RpL.im e r)
theorem RpF.im (e : Im H H') : ∀ {v : List (Str × V)} {d : List (Str × D)}, RpF K H v d → RpF K H' v d
  | _, _, .nil => .nil
  | _, _, .cons h r => .cons (Rp.im e h) (RpF.im e r)
end
theorem Rp.mono (e : Ex H H') {v : V} {d : D} (h : Rp K H v d) : Rp K H' v d := h.im e.im
theorem RpL.mono (e : Ex H H') {v : List V} {d : List D} (h : RpL K H v d) : RpL K H' v d := h.im e.im
theorem RpF.mono (e : Ex H H') {v : List (Str × V)} {d : List (Str × D)} (h : RpF K H v d) : RpF K H' v d := h.im e.im
theorem Rp.i {v : V} {i : Int} (h : Rp K H v (.int i)) : v = .int i := by cases h; rfl
theorem Rp.b {v : V} {i : Bool} (h : Rp K H v (.bl i)) : v = .bl i := by cases h; rfl
theorem Rp.s {v : V} {i : Str} (h : Rp K H v (.str i)) : v = .str i := by cases h; rfl
theorem Rp.n {v : V} (h : Rp K H v .non) : v = .non := by cases h; rfl
theorem Rp.t {v : V} {ds : List D} (h : Rp K H v (.tup ds)) : ∃ a vs, v = .ref a ∧ SqT K H a vs ∧ RpL K H vs ds := by cases h with | tup h r => exact ⟨_, _, rfl, h, r⟩
theorem Rp.o {v : V} {C : Addr} {gs : List (Str × D)} (h : Rp K H v (.obj C gs)) : ∃ a dx fs, v = .ref a ∧ H a = some (.ins C dx fs) ∧ RpF K H fs gs := by cases h with | obj h r => exact ⟨_, _, _, rfl, h, r⟩
theorem RpL.len : ∀ {vs : List V} {ds : List D}, RpL K H vs ds → vs.length = ds.length
  | _, _, .nil => rfl
  | _, _, .cons _ r => congrArg Nat.succ r.len
theorem RpL.get : ∀ {vs : List V} {ds : List D} {i : Nat} {d : D}, RpL K H vs ds → ds[i]? = some d → ∃ v, vs[i]? = some v ∧ Rp K H v d
  | _, _, _, _, .nil, e => by simp at e
  | _, _, 0, _, .cons h _, e => by
    simp at e
    subst e
    exact ⟨_, rfl, h⟩
  | _, _, i + 1, d, .cons _ r, e => by
    obtain ⟨v, h1, h2⟩ := RpL.get (i := i) (d := d) r (by simpa using e)
    exact ⟨v, by simpa using h1, h2⟩
theorem RpL.at' : ∀ {vs : List V} {ds : List D} {i : Nat} {v : V}, RpL K H vs ds → vs[i]? = some v → ∃ d, ds[i]? = some d ∧ Rp K H v d
  | _, _, _, _, .nil, e => by simp at e
  | _, _, 0, _, .cons h _, e => by
    simp at e
    subst e
    exact ⟨_, rfl, h⟩
  | _, _, i + 1, d, .cons _ r, e => by
    obtain ⟨v, h1, h2⟩ := RpL.at' (i := i) (v := d) r (by simpa using e)
    exact ⟨v, by simpa using h1, h2⟩
theorem RpL.app : ∀ {vs : List V} {ds : List D} {vs' : List V} {ds' : List D}, RpL K H vs ds → RpL K H vs' ds' → RpL K H (vs ++ vs') (ds ++ ds')
  | _, _, _, _, .nil, s => s
  | _, _, _, _, .cons h r, s => .cons h (RpL.app r s)
theorem RpL.snoc {vs : List V} {ds : List D} {v : V} {d : D} (h : RpL K H vs ds) (q : Rp K H v d) : RpL K H (vs ++ [v]) (ds ++ [d]) := h.app (.cons q .nil)
theorem RpL.take : ∀ {vs : List V} {ds : List D} (n : Nat), RpL K H vs ds → RpL K H (vs.take n) (ds.take n)
  | _, _, 0, _ => .nil
  | _, _, _ + 1, .nil => .nil
  | _, _, n + 1, .cons h r => .cons h (RpL.take n r)
theorem RpL.drop : ∀ {vs : List V} {ds : List D} (n : Nat), RpL K H vs ds → RpL K H (vs.drop n) (ds.drop n)
  | _, _, 0, r => r
  | _, _, _ + 1, .nil => .nil
  | _, _, n + 1, .cons h r => RpL.drop n r
theorem RpL.rev : ∀ {vs : List V} {ds : List D}, RpL K H vs ds → RpL K H vs.reverse ds.reverse
  | _, _, .nil => .nil
  | _, _, .cons h r => by
    rw [List.reverse_cons, List.reverse_cons]
    exact (RpL.rev r).snoc h
def dI (ns : List Int) : List D := ns.map D.int
theorem RpL.ints : ∀ (ns : List Int), RpL K H (ns.map V.int) (dI ns)
  | [] => .nil
  | n :: r => .cons (.int n) (RpL.ints r)
theorem RpL.ints_inv : ∀ {ns : List Int} {vs : List V}, RpL K H vs (dI ns) → vs = ns.map V.int
  | [], _, h => by cases h; rfl
  | n :: r, _, h => by
    cases h with
    | cons h1 h2 =>
      rw [h1.i, RpL.ints_inv h2] <;> rfl
theorem Rp.ti {v : V} {ns : List Int} (h : Rp K H v (.tup (dI ns))) : ∃ a, v = .ref a ∧ SqT K H a (ns.map V.int) := by
  obtain ⟨a, vs, e, h1, h2⟩ := h.t
  rw [h2.ints_inv] at h1
  exact ⟨a, e, h1⟩
theorem Rp.ti_of {a : Addr} {ns : List Int} (h : SqT K H a (ns.map V.int)) : Rp K H (.ref a) (.tup (dI ns)) := .tup h (RpL.ints ns)
end

/-! ### wrappers: what a step asks of values -/
def II (x y : V) (k : Int → Int → Prop) : Prop := ∃ i j, x = .int i ∧ y = .int j ∧ k i j
theorem x_II {i j : Int} {k : Int → Int → Prop} (h : k i j) : II (.int i) (.int j) k := ⟨i, j, rfl, rfl, h⟩
def AsB (x : V) (k : Bool → Prop) : Prop := ∃ b, x = .bl b ∧ k b
theorem x_asB {b : Bool} {k : Bool → Prop} (h : k b) : AsB (.bl b) k := ⟨b, rfl, h⟩
def Sd (p q : Prop) : Prop := p ∧ q
theorem x_sd {p q : Prop} (h : p) (h2 : q) : Sd p q := ⟨h, h2⟩
def NewL (xs : List V) (H : Hp) (Q : VK) : Prop := xs.length ≤ sizeLine ∧ ∀ p, H p = none → Q (.ref p) (upd H p (.lst xs))
def NewT (xs : List V) (H : Hp) (Q : VK) : Prop := xs.length ≤ sizeLine ∧ ∀ p, H p = none → Q (.ref p) (upd H p (.tup xs))
theorem big_le {n : Nat} (h : n ≤ 100000) : n ≤ sizeLine := Nat.le_trans h (by rw [sizeLine_eq]; decide)
theorem big_lt {n : Nat} (h : n < 100000) : n < sizeLine := Nat.lt_of_lt_of_le h (by rw [sizeLine_eq]; decide)
theorem x_newL {xs : List V} {H : Hp} {Q : VK} (hl : Nat.ble xs.length 100000 = true) (k : ∀ p H1, H p = none → Ex H H1 → H1 p = some (.lst xs) → H1 = upd H p (.lst xs) → Q (.ref p) H1) : NewL xs H Q :=
  ⟨big_le (Nat.le_of_ble_eq_true hl), fun p hp => k p _ hp (Ex.new hp) upd_same rfl⟩
theorem x_newT {xs : List V} {H : Hp} {Q : VK} (hl : Nat.ble xs.length 100000 = true) (k : ∀ p H1, H p = none → Ex H H1 → H1 p = some (.tup xs) → H1 = upd H p (.tup xs) → Q (.ref p) H1) : NewT xs H Q :=
  ⟨big_le (Nat.le_of_ble_eq_true hl), fun p hp => k p _ hp (Ex.new hp) upd_same rfl⟩
/-- one more item at the list at l -/
def App (l : Addr) (v : V) (H : Hp) (Q : VK) : Prop := ∃ xs, H l = some (.lst xs) ∧ xs.length < sizeLine ∧ Q .non (upd H l (.lst (xs ++ [v])))
theorem x_App {l : Addr} {v : V} {H : Hp} {Q : VK} {xs : List V} (h : H l = some (.lst xs)) (hz : xs.length < 100000) (q : Q .non (upd H l (.lst (xs ++ [v])))) : App l v H Q := ⟨xs, h, big_lt hz, q⟩

/-! ### readings of operations -/
abbrev rPlus : R2 := rI0 fun i j => .int (i + j)
abbrev rMinus : R2 := rI0 fun i j => .int (i - j)
abbrev rMul : R2 := rI CMul fun i j => .int (i * j)
abbrev rMod : R2 := rI (fun _ j => 0 < j) fun i j => .int (i % j)
abbrev rDiv : R2 := rI CDiv fun i j => .int (i / j)
abbrev rPow : R2 := rI CPow fun i j => .int (i ^ j.toNat)
abbrev rLt : R2 := rI0 fun i j => .bl (decide (i < j))
abbrev rLe : R2 := rI0 fun i j => .bl (decide (i ≤ j))
abbrev rGt : R2 := rI0 fun i j => .bl (decide (j < i))
abbrev rGe : R2 := rI0 fun i j => .bl (decide (j ≤ i))
abbrev rNeg : V → Hp → VK → Prop := rU fun i => .int (-i)
abbrev ipAdd : TIp := ipI fun i j => i + j
abbrev ipSub : TIp := ipI fun i j => i - j
def rLenQ (K : PySem.W.Frag) : List V → Hp → VK → Prop := fun xs H Q => ∃ p ys, xs = [.ref p] ∧ (SqL K H p ys ∨ SqT K H p ys) ∧ Q (.int ys.length) H
def rLenS : List V → Hp → VK → Prop := fun xs H Q => ∃ z, xs = [.str z] ∧ z.length ≤ sizeLine ∧ Q (.int z.length) H
def rMin2 : List V → Hp → VK → Prop := fun xs H Q => ∃ i j, xs = [.int i, .int j] ∧ Q (.int (if j < i then j else i)) H
def rMax2 : List V → Hp → VK → Prop := fun xs H Q => ∃ i j, xs = [.int i, .int j] ∧ Q (.int (if j > i then j else i)) H
def rListO (K : PySem.W.Frag) : List V → Hp → VK → Prop := fun xs H Q => ∃ p ys, xs = [.ref p] ∧ (SqL K H p ys ∨ SqT K H p ys) ∧ ∀ l, H l = none → Q (.ref l) (upd H l (.lst ys))
def rTupO (K : PySem.W.Frag) : List V → Hp → VK → Prop := fun xs H Q => ∃ p ys, xs = [.ref p] ∧ ((SqL K H p ys ∧ ∀ l, H l = none → Q (.ref l) (upd H l (.tup ys))) ∨ (SqT K H p ys ∧ Q (.ref p) H))
def rIsN : R2 := fun x y H Q => y = .non ∧ Q (.bl (decide (x = .non))) H
def rNotN : R2 := fun x y H Q => y = .non ∧ Q (.bl (!decide (x = .non))) H
section
variable {K : PySem.W.Frag} {H : Hp} {Q : VK}
theorem x_lenL {p : Addr} {ys : List V} (h : SqL K H p ys) (q : Q (.int ys.length) H) : rLenQ K [.ref p] H Q := ⟨p, ys, rfl, .inl h, q⟩
theorem x_lenT {p : Addr} {ys : List V} (h : SqT K H p ys) (q : Q (.int ys.length) H) : rLenQ K [.ref p] H Q := ⟨p, ys, rfl, .inr h, q⟩
theorem x_min2 {i j : Int} (q : Q (.int (if j < i then j else i)) H) : rMin2 [.int i, .int j] H Q := ⟨i, j, rfl, q⟩
theorem x_max2 {i j : Int} (q : Q (.int (if j > i then j else i)) H) : rMax2 [.int i, .int j] H Q := ⟨i, j, rfl, q⟩
theorem x_ixL {p : Addr} {xs : List V} {i : Int} {v : V} (h : SqL K H p xs) (ha : atI xs i = some v) (q : Q v H) : rIxL K (.ref p) (.int i) H Q := ⟨p, xs, i, v, rfl, rfl, h, ha, q⟩
theorem x_ixT {p : Addr} {xs : List V} {i : Int} {v : V} (h : SqT K H p xs) (ha : atI xs i = some v) (q : Q v H) : rIxT K (.ref p) (.int i) H Q := ⟨p, xs, i, v, rfl, rfl, h, ha, q⟩
theorem atI_n {α : Type} {xs : List α} {i : Int} {v : α} (h0 : 0 ≤ i) (h : xs[i.toNat]? = some v) : atI xs i = some v := by
  have hl : i.toNat < xs.length := (List.getElem?_eq_some_iff.mp h).1
  unfold atI ixN
  rw [if_pos h0, if_pos (by omega)]
  exact h
theorem x_sum {p : Addr} {ns : List Int} (h : SqL K H p (ns.map V.int)) (q : Q (.int ns.sum) H) : rSum K [.ref p] H Q := ⟨p, ns, rfl, h, q⟩
theorem x_min {p : Addr} {ns : List Int} (h : SqL K H p (ns.map V.int)) (hl : 0 < ns.length) (q : ∀ m, m ∈ ns → (∀ y, y ∈ ns → m ≤ y) → Q (.int m) H) : rMin K [.ref p] H Q := ⟨p, ns, rfl, h, hl, q⟩
theorem x_max {p : Addr} {ns : List Int} (h : SqL K H p (ns.map V.int)) (hl : 0 < ns.length) (q : ∀ m, m ∈ ns → (∀ y, y ∈ ns → y ≤ m) → Q (.int m) H) : rMax K [.ref p] H Q := ⟨p, ns, rfl, h, hl, q⟩
end

/-! ### the steps -/
section
variable {K : PySem.W.Frag} {σ : L2.St} {H : Hp} {Q : VK} {te ta tb tc : TE} {t u : TS} {tt tu : TT} {v : V} {i j : Nat} {TQ : Bool → Hp → Prop}
  {nx : L2.St → Hp → Prop} {rt : VK} {bk ct : L2.St → Hp → Prop} {al : TA} {QA : List V → Hp → Prop} {g : TG} {sp : Sp} {E : XK}
theorem x_var (h : σ[i]? = some (some v)) (q : Q v H) : tVar i σ H Q := ⟨v, h, q⟩
theorem x_c (q : Q v H) : tC v σ H Q := q
theorem x_opI0 {g : Int → Int → V} (h : ta σ H fun x H1 => tb σ H1 fun y H2 => II x y fun i j => Q (g i j) H2) : tOp (rI0 g) ta tb σ H Q := h
theorem x_opI {C : Int → Int → Prop} {g : Int → Int → V} (h : ta σ H fun x H1 => tb σ H1 fun y H2 => II x y fun i j => Sd (C i j) (Q (g i j) H2)) : tOp (rI C g) ta tb σ H Q := h
def EqQ (x y : V) (Q : VK) (H : Hp) : Prop := scal x y = true ∧ Q (.bl (decide (x = y))) H
def NeQ (x y : V) (Q : VK) (H : Hp) : Prop := scal x y = true ∧ Q (.bl (!decide (x = y))) H
theorem dec_int (i j : Int) : decide (V.int i = V.int j) = decide (i = j) := decide_eq_decide.mpr ⟨fun h => V.int.inj h, fun h => by rw [h]⟩
theorem dec_str (i j : Str) : decide (V.str i = V.str j) = decide (i = j) := decide_eq_decide.mpr ⟨fun h => V.str.inj h, fun h => by rw [h]⟩
theorem dec_bl (i j : Bool) : decide (V.bl i = V.bl j) = decide (i = j) := decide_eq_decide.mpr ⟨fun h => V.bl.inj h, fun h => by rw [h]⟩
theorem x_eqI {i j : Int} (q : Q (.bl (decide (i = j))) H) : EqQ (.int i) (.int j) Q H := ⟨rfl, by rw [dec_int]; exact q⟩
theorem x_neI {i j : Int} (q : Q (.bl (!decide (i = j))) H) : NeQ (.int i) (.int j) Q H := ⟨rfl, by rw [dec_int]; exact q⟩
theorem x_eqS {i j : Str} (q : Q (.bl (decide (i = j))) H) : EqQ (.str i) (.str j) Q H := ⟨rfl, by rw [dec_str]; exact q⟩
theorem x_neS {i j : Str} (q : Q (.bl (!decide (i = j))) H) : NeQ (.str i) (.str j) Q H := ⟨rfl, by rw [dec_str]; exact q⟩
theorem x_eqB {i j : Bool} (q : Q (.bl (decide (i = j))) H) : EqQ (.bl i) (.bl j) Q H := ⟨rfl, by rw [dec_bl]; exact q⟩
theorem x_neB {i j : Bool} (q : Q (.bl (!decide (i = j))) H) : NeQ (.bl i) (.bl j) Q H := ⟨rfl, by rw [dec_bl]; exact q⟩
theorem x_opEq (h : ta σ H fun x H1 => tb σ H1 fun y H2 => EqQ x y Q H2) : tOp rEq ta tb σ H Q := h
theorem x_opNe (h : ta σ H fun x H1 => tb σ H1 fun y H2 => NeQ x y Q H2) : tOp rNe ta tb σ H Q := h
theorem x_op {r : R2} (h : ta σ H fun x H1 => tb σ H1 fun y H2 => r x y H2 Q) : tOp r ta tb σ H Q := h
theorem x_chain {r r' : R2} (h : ta σ H fun x H1 => tb σ H1 fun y H2 => r x y H2 fun z H3 => AsB z fun k => if k = true then tc σ H3 fun w' H4 => r' y w' H4 Q else Q (.bl false) H3) : tChain r r' ta tb tc σ H Q := h
theorem x_rI0 {g : Int → Int → V} {x y : V} (h : II x y fun i j => Q (g i j) H) : rI0 g x y H Q := h
theorem x_rI {C : Int → Int → Prop} {g : Int → Int → V} {x y : V} (h : II x y fun i j => Sd (C i j) (Q (g i j) H)) : rI C g x y H Q := h
def AsO (x : V) (k : Int → Prop) : Prop := ∃ i, x = .int i ∧ k i
theorem x_asO {i : Int} {k : Int → Prop} (h : k i) : AsO (.int i) k := ⟨i, rfl, h⟩
theorem x_sl {r : V → Option Int → Option Int → Hp → VK → Prop} {tl th : TO} (h : te σ H fun x H1 => tl σ H1 fun l H2 => th σ H2 fun u H3 => r x l u H3 Q) : tSl r te tl th σ H Q := h
theorem x_noPart {QO : Option Int → Hp → Prop} (h : QO none H) : tNoPart σ H QO := h
theorem x_part {QO : Option Int → Hp → Prop} (h : te σ H fun x H1 => AsO x fun i => QO (some i) H1) : tPart te σ H QO := h
theorem x_slL {a : Addr} {xs : List V} {lo hi : Option Int} (hs : SqL K H a xs) (q : ∀ p H1, H p = none → Ex H H1 → H1 p = some (.lst (cutV xs lo hi)) → Q (.ref p) H1) : rSlL K (.ref a) lo hi H Q :=
  ⟨a, xs, rfl, hs, fun p hp => q p _ hp (Ex.new hp) upd_same⟩
theorem x_unI {g : Int → V} (h : ta σ H fun x H1 => AsO x fun i => Q (g i) H1) : tUn (rU g) ta σ H Q := h
theorem x_gsub {to ti : TE} {t : TSet} {v : V} {nx : L2.St → Hp → Prop} (h : to σ H fun o H1 => ti σ H1 fun i H2 => t o i v H2 fun H3 => nx σ H3) : gSub to ti t v σ H nx := h
theorem x_setL {p : Addr} {xs : List V} {k : Int} {j : Nat} {v : V} {R : Hp → Prop} (h : H p = some (.lst xs)) (hj : ixN xs.length k = some j) (q : R (upd H p (.lst (xs.set j v)))) : rSetL (.ref p) (.int k) v H R := ⟨p, xs, k, j, rfl, rfl, h, hj, q⟩
theorem ix_last {n : Nat} (h : 0 < n) : ixN n (-1) = some (n - 1) := by
  unfold ixN
  rw [if_neg (by decide), if_pos (by omega)]
  congr 1
  omega
theorem atI_last' {α : Type} {xs : List α} {v : α} (h : xs.getLast? = some v) : atI xs (-1) = some v := by
  have hn : 0 < xs.length := List.length_pos_iff.mpr fun e => by rw [e] at h; cases h
  unfold atI
  rw [ix_last hn]
  show xs[xs.length - 1]? = some v
  rw [← List.getLast?_eq_getElem?]
  exact h
theorem x_tupL {p : Addr} {ys : List V} (h : SqL K H p ys) (q : ∀ t H1, H t = none → Ex H H1 → H1 t = some (.tup ys) → Q (.ref t) H1) : rTupO K [.ref p] H Q := ⟨p, ys, rfl, .inl ⟨h, fun l hl => q l _ hl (Ex.new hl) upd_same⟩⟩
theorem x_listL {p : Addr} {ys : List V} (h : SqL K H p ys) (q : ∀ t H1, H t = none → Ex H H1 → H1 t = some (.lst ys) → Q (.ref t) H1) : rListO K [.ref p] H Q := ⟨p, ys, rfl, .inl h, fun l hl => q l _ hl (Ex.new hl) upd_same⟩
theorem x_listT {p : Addr} {ys : List V} (h : SqT K H p ys) (q : ∀ t H1, H t = none → Ex H H1 → H1 t = some (.lst ys) → Q (.ref t) H1) : rListO K [.ref p] H Q := ⟨p, ys, rfl, .inr h, fun l hl => q l _ hl (Ex.new hl) upd_same⟩
theorem menu (ms : List Int) {i : Int} (h0 : 0 ≤ i) (h1 : i < (ms.length : Int)) : ∃ m ∈ ms, atI (ms.map V.int) i = some (.int m) := by
  have hl : i.toNat < ms.length := by omega
  exact ⟨ms[i.toNat], List.getElem_mem hl, atI_n h0 (by rw [List.getElem?_map, List.getElem?_eq_getElem hl]; rfl)⟩
def Cn (n m : Nat) (vs zs : List V) (p : Prop) : Prop := vs.length = n ∧ zs.length = m ∧ p
theorem x_Cn {n m : Nat} {vs zs : List V} {p : Prop} (h1 : vs.length = n) (h2 : zs.length = m) (q : p) : Cn n m vs zs p := ⟨h1, h2, q⟩
theorem x_callN {n m : Nat} {gV : List V → List V → List V} {tk : TA} (h : al σ H fun vs H1 => tk σ H1 fun zs H2 => Cn n m vs zs (sp (gV vs zs) H2 Q E)) : tCallN n m sp gV E al tk σ H Q := h
/-! dicts -/
theorem x_dispC {a b : Int} (q : ∀ p H1, H p = none → Ex H H1 → H1 p = some (.dK [(.inl a, .int b)]) → Q (.ref p) H1) : tDisp [(tC (.int a), tC (.int b))] σ H Q := by
  intro p hp
  refine ⟨upd_same, [(.inl a, .int b)], rfl, by simp, ?_⟩
  rw [upd_upd]
  exact q p _ hp (Ex.new hp) upd_same
theorem x_dnewK (q : ∀ p H1, H p = none → Ex H H1 → H1 p = some (.dK []) → Q (.ref p) H1) : tDNewK σ H Q := fun p hp => q p _ hp (Ex.new hp) upd_same
theorem x_dnewT (q : ∀ p H1, H p = none → Ex H H1 → H1 p = some (.dT []) → Q (.ref p) H1) : tDNewT σ H Q := fun p hp => q p _ hp (Ex.new hp) upd_same
def DGt (x y : V) (H : Hp) (Q : VK) : Prop := ∃ a v, x = .ref a ∧ DGet H a y (some v) ∧ Q v H
def DIn (x y : V) (H : Hp) (Q : VK) : Prop := ∃ a o, x = .ref a ∧ DGet H a y o ∧ Q (.bl o.isSome) H
def DNi (x y : V) (H : Hp) (Q : VK) : Prop := ∃ a o, x = .ref a ∧ DGet H a y o ∧ Q (.bl (!o.isSome)) H
def DPt (x y v : V) (H : Hp) (k : Hp → Prop) : Prop := ∃ a H4, x = .ref a ∧ DPut H a y v H4 ∧ k H4
theorem x_dget {td ty : TE} (h : td σ H fun x H1 => ty σ H1 fun y H2 => DGt x y H2 Q) : tDGet td ty σ H Q := h
theorem x_din {td ty : TE} (h : ty σ H fun y H1 => td σ H1 fun x H2 => DIn x y H2 Q) : tDIn ty td σ H Q := h
theorem x_dni {td ty : TE} (h : ty σ H fun y H1 => td σ H1 fun x H2 => DNi x y H2 Q) : tDNotIn ty td σ H Q := h
theorem x_dput {td ty tv : TE} (h : tv σ H fun v H1 => td σ H1 fun x H2 => ty σ H2 fun y H3 => DPt x y v H3 fun H4 => nx σ H4) : sDPut td ty tv ⟨nx, rt, bk, ct⟩ σ H := h
theorem x_DGt {a : Addr} {kvs : List (Key × V)} {i : Int} {v : V} (h : H a = some (.dK kvs)) (hv : valV kvs (.inl i) = some v) (q : Q v H) : DGt (.ref a) (.int i) H Q := ⟨a, v, rfl, by rw [← hv]; exact DGet.k (k := .inl i) h, q⟩
theorem x_DIn {a : Addr} {kvs : List (Key × V)} {i : Int} (h : H a = some (.dK kvs)) (q : Q (.bl (valV kvs (.inl i)).isSome) H) : DIn (.ref a) (.int i) H Q := ⟨a, _, rfl, DGet.k (k := .inl i) h, q⟩
theorem x_DNi {a : Addr} {kvs : List (Key × V)} {i : Int} (h : H a = some (.dK kvs)) (q : Q (.bl (!(valV kvs (.inl i)).isSome)) H) : DNi (.ref a) (.int i) H Q := ⟨a, _, rfl, DGet.k (k := .inl i) h, q⟩
theorem x_DPt {a : Addr} {kvs : List (Key × V)} {i : Int} {v : V} {k : Hp → Prop} (h : H a = some (.dK kvs)) (hz : kvs.length < 100000) (q : k (upd H a (.dK (putK kvs (.inl i) v)))) : DPt (.ref a) (.int i) v H k := ⟨a, _, rfl, DPut.k (k := .inl i) h (big_lt hz), q⟩
def rLenD : List V → Hp → VK → Prop := fun xs H Q => ∃ a kvs, xs = [V.ref a] ∧ H a = some (.dK kvs) ∧ Q (.int kvs.length) H
theorem x_lenD {a : Addr} {kvs : List (Key × V)} (h : H a = some (.dK kvs)) (q : Q (.int kvs.length) H) : rLenD [.ref a] H Q := ⟨a, kvs, rfl, h, q⟩
theorem x_rCat {l b : Addr} {xs zs : List V} (h1 : H l = some (.lst xs)) (h2 : H b = some (.lst zs)) (hz : xs.length + zs.length ≤ 100000) (q : ∀ p H1, H p = none → Ex H H1 → H1 p = some (.lst (xs ++ zs)) → Q (.ref p) H1) : rCat (.ref l) (.ref b) H Q :=
  ⟨l, b, xs, zs, rfl, rfl, h1, h2, big_le hz, fun p hp => q p _ hp (Ex.new hp) upd_same⟩
theorem x_sorted {a : Addr} {ns : List Int} (h : SqL K H a (ns.map V.int)) (q : ∀ (zs : List Int) p H1, zs.Perm ns → zs.Pairwise (· ≤ ·) → H p = none → Ex H H1 → H1 p = some (.lst (zs.map V.int)) → Q (.ref p) H1) : rSortedI K [.ref a] H Q :=
  ⟨a, ns, rfl, h, fun zs p h1 h2 hp => q zs p _ h1 h2 hp (Ex.new hp) upd_same⟩
theorem x_isiTy {x : V} {a b : String} {r : Bool} (ty : TyX K H x (.type a)) (h : kitB a b = some r) (q : Q (.bl r) H) : rIsi K [x, .ty b] H Q := ⟨x, .ty b, _, _, r, rfl, .ty b, ty, kit_ty h, q⟩
theorem x_tst (h : te σ H fun x H1 => AsB x fun b => TQ b H1) : tTest te σ H TQ := h
theorem x_tB (h : te σ H fun x H1 => AsB x fun b => TQ b H1) : tB te σ H TQ := h
theorem x_and (h : tt σ H fun c H1 => if c = true then tu σ H1 TQ else TQ false H1) : tAnd tt tu σ H TQ := h
theorem x_or (h : tt σ H fun c H1 => if c = true then TQ true H1 else tu σ H1 TQ) : tOr tt tu σ H TQ := h
theorem x_not (h : tt σ H fun c H1 => TQ (!c) H1) : tNot tt σ H TQ := h
theorem x_andV (h : ta σ H fun x H1 => AsB x fun c => if c = true then tb σ H1 Q else Q (.bl false) H1) : tAndV ta tb σ H Q := h
theorem x_orV (h : ta σ H fun x H1 => AsB x fun c => if c = true then Q (.bl true) H1 else tb σ H1 Q) : tOrV ta tb σ H Q := h
theorem x_notV (h : ta σ H fun x H1 => AsB x fun c => Q (.bl (!c)) H1) : tNotV ta σ H Q := h
theorem x_ifE (h : tt σ H fun c H1 => if c = true then ta σ H1 Q else tb σ H1 Q) : tIf tt ta tb σ H Q := h
theorem x_nilA (h : QA [] H) : tNil σ H QA := h
theorem x_consA {tr : TA} (h : ta σ H fun x H1 => tr σ H1 fun xs H2 => QA (x :: xs) H2) : tCons ta tr σ H QA := h
theorem x_tup (h : al σ H fun xs H1 => NewT xs H1 Q) : tTup al σ H Q := h
theorem x_lst (h : al σ H fun xs H1 => NewL xs H1 Q) : tLst al σ H Q := h
theorem x_call (h : al σ H fun vs H1 => sp vs H1 Q E) : tCall sp [] E al σ H Q := by
  unfold tCall
  simp only [List.append_nil]
  exact h
theorem x_callD {dvs : List V} (h : al σ H fun vs H1 => sp (vs ++ dvs) H1 Q E) : tCall sp dvs E al σ H Q := h
theorem x_cb {r : List V → Hp → VK → Prop} (h : al σ H fun vs H1 => r vs H1 Q) : tCB r al σ H Q := h
theorem x_app {l : Addr} {xs0 : List V} (hσ : σ[i]? = some (some (.ref l))) (hl : H l = some (.lst xs0)) (h : te σ H fun v H1 => App l v H1 Q) : tBM K "list" rAppend (tVar i) (tCons te tNil) σ H Q := by
  refine ⟨_, hσ, .inl ⟨rfl, _, SqL.of hl⟩, ?_⟩
  have e : (fun v H1 => App l v H1 Q) = fun y H2 => tNil σ H2 fun xs H3 => rAppend (.ref l) (y :: xs) H3 Q := by
    funext y H2
    apply propext
    constructor
    · rintro ⟨xs, h1, h2, h3⟩
      exact ⟨l, xs, y, rfl, rfl, h1, h2, h3⟩
    · rintro ⟨l', xs, y', e1, e2, h1, h2, h3⟩
      cases e1
      cases e2
      exact ⟨xs, h1, h2, h3⟩
  show te σ H fun y H2 => tNil σ H2 fun xs H3 => rAppend (.ref l) (y :: xs) H3 Q
  rw [← e]
  exact h
/-! statements -/
theorem x_seq (h : t ⟨u ⟨nx, rt, bk, ct⟩, rt, bk, ct⟩ σ H) : tSeq t u ⟨nx, rt, bk, ct⟩ σ H := h
theorem x_next (h : nx σ H) : tNext ⟨nx, rt, bk, ct⟩ σ H := h
theorem x_asgN (h : te σ H fun x H1 => nx (σ.set i (some x)) H1) : tAsg te (gName i) ⟨nx, rt, bk, ct⟩ σ H := h
theorem x_asg (h : te σ H fun x H1 => g x σ H1 nx) : tAsg te g ⟨nx, rt, bk, ct⟩ σ H := h
theorem x_gN {nx : L2.St → Hp → Prop} (h : nx (σ.set i (some v)) H) : gName i v σ H nx := h
theorem x_gtup2 {g1 g2 : TG} {a : Addr} {v w : V} (hs : SqT K H a [v, w]) (h : g1 v σ H fun σ' H' => g2 w σ' H' nx) : gTup K 2 (gCons g1 (gCons g2 gNil)) (.ref a) σ H nx := by
  refine ⟨a, _, rfl, hs, rfl, v, [w], rfl, ?_⟩
  have e : (fun σ' H' => gCons g2 gNil [w] σ' H' nx) = fun σ' H' => g2 w σ' H' nx := by
    funext σ' H'
    apply propext
    have e2 : (fun σ2 H2 => gNil ([] : List V) σ2 H2 nx) = nx := by
      funext σ2 H2
      apply propext
      exact ⟨fun z => z.2, fun z => ⟨rfl, z⟩⟩
    constructor
    · rintro ⟨v', r, e1, z⟩
      cases e1
      rw [e2] at z
      exact z
    · intro z
      refine ⟨w, [], rfl, ?_⟩
      rw [e2]
      exact z
  rw [e]
  exact h
theorem x_gtup3 {g1 : TG} {i j : Nat} {a : Addr} {u v w : V} (hs : SqT K H a [u, v, w]) (h : g1 u σ H fun σ' H' => nx ((σ'.set i (some v)).set j (some w)) H') : gTup K 3 (gCons g1 (gCons (gName i) (gCons (gName j) gNil))) (.ref a) σ H nx := by
  refine ⟨a, _, rfl, hs, rfl, u, [v, w], rfl, ?_⟩
  have e : (fun σ' H' => gCons (gName i) (gCons (gName j) gNil) [v, w] σ' H' nx) = fun σ' H' => nx ((σ'.set i (some v)).set j (some w)) H' := by
    funext σ' H'
    apply propext
    constructor
    · rintro ⟨v', r, e1, w', r', e2, z1, z2⟩
      cases e1
      cases e2
      exact z2
    · intro z
      exact ⟨v, _, rfl, w, _, rfl, rfl, z⟩
  rw [e]
  exact h
theorem x_drop (h : te σ H fun _ H1 => nx σ H1) : tDrop te ⟨nx, rt, bk, ct⟩ σ H := h
theorem x_ret (h : te σ H rt) : tRet te ⟨nx, rt, bk, ct⟩ σ H := h
theorem x_retN (h : rt .non H) : tRetN ⟨nx, rt, bk, ct⟩ σ H := h
theorem x_brk (h : bk σ H) : tBreak ⟨nx, rt, bk, ct⟩ σ H := h
theorem x_cont (h : ct σ H) : tCont ⟨nx, rt, bk, ct⟩ σ H := h
theorem x_if (h : tt σ H fun b H1 => if b = true then t ⟨nx, rt, bk, ct⟩ σ H1 else u ⟨nx, rt, bk, ct⟩ σ H1) : tIfS tt t u ⟨nx, rt, bk, ct⟩ σ H := h
def Par (i j : Nat) (vs : List V) (σ : L2.St) (k : L2.St → Prop) : Prop := ∃ v w, vs = [v, w] ∧ k ((σ.set i (some v)).set j (some w))
theorem x_Par {a b : V} {k : L2.St → Prop} (h : k ((σ.set i (some a)).set j (some b))) : Par i j [a, b] σ k := ⟨a, b, rfl, h⟩
theorem x_par (h : al σ H fun vs H1 => Par i j vs σ fun σ' => nx σ' H1) : tPar i j al ⟨nx, rt, bk, ct⟩ σ H := h
def Par3 (i j l : Nat) (vs : List V) (σ : L2.St) (k : L2.St → Prop) : Prop := ∃ u v w, vs = [u, v, w] ∧ k (((σ.set i (some u)).set j (some v)).set l (some w))
theorem x_Par3 {l : Nat} {a b c : V} {k : L2.St → Prop} (h : k (((σ.set i (some a)).set j (some b)).set l (some c))) : Par3 i j l [a, b, c] σ k := ⟨a, b, c, rfl, h⟩
theorem x_par3 {l : Nat} (h : al σ H fun vs H1 => Par3 i j l vs σ fun σ' => nx σ' H1) : tPar3 i j l al ⟨nx, rt, bk, ct⟩ σ H := h
theorem x_aug {ti : TIp} {x : V} (hx : σ[i]? = some (some x)) (h : te σ H fun y H1 => ti x y H1 fun z H2 => nx (σ.set i (some z)) H2) : tAug i te ti ⟨nx, rt, bk, ct⟩ σ H := ⟨x, hx, h⟩
theorem x_ipI {f : Int → Int → Int} {i j : Int} (h : Q (.int (f i j)) H) : ipI f (.int i) (.int j) H Q := ⟨i, j, rfl, rfl, h⟩
/-! branches -/
theorem b_t {A B : Prop} {c : Bool} (e : c = true) (h : A) : if c = true then A else B := by rw [if_pos e]; exact h
theorem b_f {A B : Prop} {c : Bool} (e : c = false) (h : B) : if c = true then A else B := by rw [e, if_neg Bool.false_ne_true]; exact h
theorem b_2 {A B : Prop} {c : Bool} (h1 : c = true → A) (h2 : c = false → B) : if c = true then A else B := by
  cases c with
  | true => exact b_t rfl (h1 rfl)
  | false => exact b_f rfl (h2 rfl)
theorem b_d {A B : Prop} {c : Prop} [Decidable c] (h1 : c → A) (h2 : ¬ c → B) : if decide c = true then A else B := b_2 (fun h => h1 (of_decide_eq_true h)) (fun h => h2 (of_decide_eq_false h))
/-- the ways of an expression meet -/
theorem b_join {c : Prop} [Decidable c] {ta tb : TE} {σ1 : L2.St} {H1 : Hp} {Q' : VK} (Pr : V → Hp → Prop) (k : ∀ v H2, Pr v H2 → Q' v H2) (h1 : c → ∀ R : VK, (∀ v H2, Pr v H2 → R v H2) → ta σ1 H1 R) (h2 : ¬ c → ∀ R : VK, (∀ v H2, Pr v H2 → R v H2) → tb σ1 H1 R) :
    if decide c = true then ta σ1 H1 Q' else tb σ1 H1 Q' := b_d (fun h => h1 h Q' k) (fun h => h2 h Q' k)
theorem b_joinV {c : Prop} [Decidable c] {ta tb : TE} {σ1 : L2.St} {H1 : Hp} {Q' : VK} (Pr : V → Prop) (k : ∀ v, Pr v → Q' v H1) (h1 : c → ∀ R : VK, (∀ v, Pr v → R v H1) → ta σ1 H1 R) (h2 : ¬ c → ∀ R : VK, (∀ v, Pr v → R v H1) → tb σ1 H1 R) :
    if decide c = true then ta σ1 H1 Q' else tb σ1 H1 Q' := b_d (fun h => h1 h Q' k) (fun h => h2 h Q' k)
theorem s_joinS {c : Prop} [Decidable c] {t u : TS} {σ1 : L2.St} {H1 : Hp} (J : L2.St → Prop) (k : ∀ σ', J σ' → nx σ' H1) (h1 : c → ∀ nx' : L2.St → Hp → Prop, (∀ σ', J σ' → nx' σ' H1) → t ⟨nx', rt, bk, ct⟩ σ1 H1)
    (h2 : ¬ c → ∀ nx' : L2.St → Hp → Prop, (∀ σ', J σ' → nx' σ' H1) → u ⟨nx', rt, bk, ct⟩ σ1 H1) : if decide c = true then t ⟨nx, rt, bk, ct⟩ σ1 H1 else u ⟨nx, rt, bk, ct⟩ σ1 H1 := b_d (fun h => h1 h nx k) (fun h => h2 h nx k)
/-- .. of a statement -/
theorem s_join {c : Prop} [Decidable c] {t u : TS} {σ1 : L2.St} {H1 : Hp} (J : L2.St → Hp → Prop) (k : ∀ σ' H', J σ' H' → nx σ' H') (h1 : c → ∀ nx' : L2.St → Hp → Prop, (∀ σ' H', J σ' H' → nx' σ' H') → t ⟨nx', rt, bk, ct⟩ σ1 H1)
    (h2 : ¬ c → ∀ nx' : L2.St → Hp → Prop, (∀ σ' H', J σ' H' → nx' σ' H') → u ⟨nx', rt, bk, ct⟩ σ1 H1) : if decide c = true then t ⟨nx, rt, bk, ct⟩ σ1 H1 else u ⟨nx, rt, bk, ct⟩ σ1 H1 := b_d (fun h => h1 h nx k) (fun h => h2 h nx k)
/-! loops -/
def ForIt (J : It) (g : TG) (tb : TS) (D : Ends) (σ : L2.St) (H1 : Hp) : Prop := ∃ W : Nat → Nat → L2.St → Hp → Prop, (∃ m, W 0 m σ H1) ∧ ∀ i m σ H, W i m σ H →
  (J.stop i H ∧ D.nx σ H) ∨ (J.go i H ∧ ∃ N : L2.St → Hp → Prop, (∀ σ' H', N σ' H' → ∃ m', m' < m ∧ W (i + 1) m' σ' H') ∧ ∀ x H', J.yld i H x H' → g x σ H' fun σ2 H2 => tb { D with nx := N, ct := N, bk := D.nx } σ2 H2)
def R1 (vs : List V) (k : Int → Prop) : Prop := ∃ j : Int, vs = [.int j] ∧ -(2 ^ 62) ≤ j ∧ j < 2 ^ 62 ∧ k j
def R2' (vs : List V) (k : Int → Int → Prop) : Prop := ∃ i j : Int, vs = [.int i, .int j] ∧ (-(2 ^ 62) ≤ i ∧ i < 2 ^ 62 ∧ -(2 ^ 62) ≤ j ∧ j < 2 ^ 62) ∧ k i j
theorem x_R1 {j : Int} {k : Int → Prop} (h : -(2 ^ 62) ≤ j ∧ j < 2 ^ 62) (q : k j) : R1 [.int j] k := ⟨j, rfl, h.1, h.2, q⟩
theorem x_R2 {i j : Int} {k : Int → Int → Prop} (h : -(2 ^ 62) ≤ i ∧ i < 2 ^ 62 ∧ -(2 ^ 62) ≤ j ∧ j < 2 ^ 62) (q : k i j) : R2' [.int i, .int j] k := ⟨i, j, rfl, h, q⟩
variable {De : Ends}
theorem x_forR1 (h : al σ H fun vs H1 => R1 vs fun j => ForIt (Itr 0 j.toNat) g t De σ H1) : tFor (iRng1 al) g t De σ H := h
theorem x_forR2 (h : al σ H fun vs H1 => R2' vs fun i j => ForIt (Itr i (j - i).toNat) g t De σ H1) : tFor (iRng2 al) g t De σ H := h
def RefL (K : PySem.W.Frag) (x : V) (H : Hp) (k : Addr → Prop) : Prop := ∃ a, x = .ref a ∧ (∃ xs, SqL K H a xs) ∧ k a
def RefT (K : PySem.W.Frag) (x : V) (H : Hp) (k : Addr → Prop) : Prop := ∃ a, x = .ref a ∧ (∃ xs, SqT K H a xs) ∧ k a
theorem x_forL (h : te σ H fun x H1 => RefL K x H1 fun a => ForIt (Itl K a) g t De σ H1) : tFor (iList K te) g t De σ H := h
theorem x_forT (h : te σ H fun x H1 => RefT K x H1 fun a => ForIt (Itt K a) g t De σ H1) : tFor (iTup K te) g t De σ H := h
theorem x_RefL {a : Addr} {xs : List V} {k : Addr → Prop} (h : SqL K H a xs) (q : k a) : RefL K (.ref a) H k := ⟨a, rfl, ⟨xs, h⟩, q⟩
theorem x_RefT {a : Addr} {xs : List V} {k : Addr → Prop} (h : SqT K H a xs) (q : k a) : RefT K (.ref a) H k := ⟨a, rfl, ⟨xs, h⟩, q⟩
/-- for x in range: the target a name -/
theorem for_r {lo : Int} {n j : Nat} (Pv : Nat → L2.St → Hp → Prop) (h0 : Pv 0 σ H)
    (hs : ∀ i σ H, i < n → Pv i σ H → t ⟨Pv (i + 1), rt, nx, Pv (i + 1)⟩ (σ.set j (some (.int (lo + (i : Int))))) H) (hd : ∀ σ H, Pv n σ H → nx σ H) : ForIt (Itr lo n) (gName j) t ⟨nx, rt, bk, ct⟩ σ H :=
  for_range (D := ⟨nx, rt, bk, ct⟩) Pv h0 hs hd
theorem for_l {a : Addr} {xs : List V} (Pv : Nat → L2.St → Hp → Prop) (h0 : Pv 0 σ H) (hl : ∀ i σ H, i ≤ xs.length → Pv i σ H → SqL K H a xs)
    (hs : ∀ i x σ H, xs[i]? = some x → Pv i σ H → g x σ H fun σ2 H2 => t ⟨Pv (i + 1), rt, nx, Pv (i + 1)⟩ σ2 H2) (hd : ∀ σ H, Pv xs.length σ H → nx σ H) : ForIt (Itl K a) g t ⟨nx, rt, bk, ct⟩ σ H :=
  for_list (D := ⟨nx, rt, bk, ct⟩) Pv h0 hl hs hd
theorem for_t {a : Addr} {xs : List V} (Pv : Nat → L2.St → Hp → Prop) (h0 : Pv 0 σ H) (hl : ∀ i σ H, i ≤ xs.length → Pv i σ H → SqT K H a xs)
    (hs : ∀ i x σ H, xs[i]? = some x → Pv i σ H → g x σ H fun σ2 H2 => t ⟨Pv (i + 1), rt, nx, Pv (i + 1)⟩ σ2 H2) (hd : ∀ σ H, Pv xs.length σ H → nx σ H) : ForIt (Itt K a) g t ⟨nx, rt, bk, ct⟩ σ H :=
  for_tup (D := ⟨nx, rt, bk, ct⟩) Pv h0 hl hs hd
def WN (W : Nat → L2.St → Hp → Prop) (m : Nat) (t : TS) (nx : L2.St → Hp → Prop) (rt : VK) (σ' : L2.St) (H1 : Hp) : Prop := ∃ N : L2.St → Hp → Prop, (∀ σ2 H2, N σ2 H2 → ∃ m', m' < m ∧ W m' σ2 H2) ∧ t ⟨N, rt, nx, N⟩ σ' H1
theorem x_WN {W : Nat → L2.St → Hp → Prop} {m : Nat} (h : t ⟨fun σ2 H2 => ∃ m', m' < m ∧ W m' σ2 H2, rt, nx, fun σ2 H2 => ∃ m', m' < m ∧ W m' σ2 H2⟩ σ H) : WN W m t nx rt σ H := ⟨_, fun _ _ z => z, h⟩
theorem x_while (W : Nat → L2.St → Hp → Prop) (m0 : Nat) (h0 : W m0 σ H)
    (hs : ∀ m σ' H', W m σ' H' → tt σ' H' fun b H1 => if b = true then WN W m t nx rt σ' H1 else nx σ' H1) : tWhile tt t ⟨nx, rt, bk, ct⟩ σ H := ⟨W, ⟨m0, h0⟩, hs⟩
/-! comprehensions -/
def LcIt (J : It) (g : TG) (tt : TT) (te : TE) (vs : List Nat) (σ : L2.St) (H1 : Hp) (Q : VK) : Prop := ∀ D, H1 D = none → ∃ W : Nat → Nat → Hp → Prop, (∃ m, W 0 m (upd H1 D (.lst []))) ∧ ∀ i m H, W i m H →
  (J.stop i H ∧ Q (.ref D) H) ∨ (J.go i H ∧ ∃ Nx : Hp → Prop, (∀ H', Nx H' → ∃ m', m' < m ∧ W (i + 1) m' H') ∧ ∀ x H', J.yld i H x H' → g x (wipe σ vs) H' fun σ2 H2 => wipe σ2 vs = wipe σ vs ∧ tt σ2 H2 fun b H3 =>
    if b = true then te σ2 H3 fun y H4 => ∃ acc, H4 D = some (.lst acc) ∧ acc.length < sizeLine ∧ Nx (upd H4 D (.lst (acc ++ [y]))) else Nx H3)
theorem x_lcL {tl : TE} {vs : List Nat} (h : tl σ H fun x H1 => RefL K x H1 fun a => LcIt (Itl K a) g tt te vs σ H1 Q) : tLc (iList K tl) g tt te vs σ H Q := h
theorem x_lcT {tl : TE} {vs : List Nat} (h : tl σ H fun x H1 => RefT K x H1 fun a => LcIt (Itt K a) g tt te vs σ H1 Q) : tLc (iTup K tl) g tt te vs σ H Q := h
theorem x_lcR1 {vs : List Nat} (h : al σ H fun xs H1 => R1 xs fun j => LcIt (Itr 0 j.toNat) g tt te vs σ H1 Q) : tLc (iRng1 al) g tt te vs σ H Q := h
theorem x_lcR2 {vs : List Nat} (h : al σ H fun xs H1 => R2' xs fun i j => LcIt (Itr i (j - i).toNat) g tt te vs σ H1 Q) : tLc (iRng2 al) g tt te vs σ H Q := h
def Lc2It (J : It) (g : TG) (tt : TT) (wi1 : TI) (g1 : TG) (tt1 : TT) (te : TE) (vs vs1 : List Nat) (σ : L2.St) (H1 : Hp) (Q : VK) : Prop := ∀ D, H1 D = none → ∃ W : Nat → Nat → Hp → Prop, (∃ m, W 0 m (upd H1 D (.lst []))) ∧ ∀ i m H, W i m H →
  (J.stop i H ∧ Q (.ref D) H) ∨ (J.go i H ∧ ∃ Nx : Hp → Prop, (∀ H', Nx H' → ∃ m', m' < m ∧ W (i + 1) m' H') ∧ ∀ x H', J.yld i H x H' → g x (wipe σ vs) H' fun σ2 H2 => wipe σ2 vs = wipe σ vs ∧ tt σ2 H2 fun b H3 =>
    if b = true then wi1 σ2 H3 fun J1 H4 => ∃ W1 : Nat → Nat → Hp → Prop, (∃ m, W1 0 m H4) ∧ ∀ j k H, W1 j k H →
      (J1.stop j H ∧ Nx H) ∨ (J1.go j H ∧ ∃ Nx1 : Hp → Prop, (∀ H', Nx1 H' → ∃ k', k' < k ∧ W1 (j + 1) k' H') ∧ ∀ x H', J1.yld j H x H' → g1 x (wipe σ2 vs1) H' fun σ3 H5 => wipe σ3 vs1 = wipe σ2 vs1 ∧ tt1 σ3 H5 fun b H6 =>
        if b = true then te σ3 H6 fun y H7 => ∃ acc, H7 D = some (.lst acc) ∧ acc.length < sizeLine ∧ Nx1 (upd H7 D (.lst (acc ++ [y]))) else Nx1 H6)
    else Nx H3)
theorem x_lc2L {tl : TE} {wi1 : TI} {g1 : TG} {tt1 : TT} {vs vs1 : List Nat} (h : tl σ H fun x H1 => RefL K x H1 fun a => Lc2It (Itl K a) g tt wi1 g1 tt1 te vs vs1 σ H1 Q) : tLc2 (iList K tl) g tt wi1 g1 tt1 te vs vs1 σ H Q := h
theorem x_yes (h : TQ true H) : tYes σ H TQ := h
/-- the turn of a comprehension: what is to be shown -/
def Turn' (K : PySem.W.Frag) (f : Option D) (g : TG) (tt : TT) (te : TE) (vs : List Nat) (σ : L2.St) (x : V) (H' : Hp) : Prop :=
  ∀ (R : VK) (RN : Hp → Prop), (∀ y H4 d, Ex H' H4 → f = some d → Rp K H4 y d → R y H4) → (∀ H4, Ex H' H4 → f = none → RN H4) →
    g x (wipe σ vs) H' fun σ2 H2 => wipe σ2 vs = wipe σ vs ∧ tt σ2 H2 fun b H3 => if b = true then te σ2 H3 R else RN H3
theorem fm_succ {α : Type} (f : Nat → Option α) (n : Nat) : (List.range (n + 1)).filterMap f = (List.range n).filterMap f ++ (f n).toList := by
  rw [List.range_succ, List.filterMap_append]
  cases h : f n with
  | none => simp [h]
  | some _ => simp [h]
theorem lc_inv {f : Nat → Option D} {i : Nat} {vs : List Nat} {D1 : Addr} {x : V} {H1 H' : Hp} (hi : i < 100000) (hD : H1 D1 = none) (p : Ex H1 H' ∧ ∃ acc, H' D1 = some (.lst acc) ∧ acc.length ≤ i ∧ RpL K H' acc ((List.range i).filterMap f)) (ht : Turn' K (f i) g tt te vs σ x H') :
    g x (wipe σ vs) H' fun σ2 H2 => wipe σ2 vs = wipe σ vs ∧ tt σ2 H2 fun b H3 => if b = true then te σ2 H3 fun y H4 => ∃ acc, H4 D1 = some (.lst acc) ∧ acc.length < sizeLine ∧ (Ex H1 (upd H4 D1 (.lst (acc ++ [y]))) ∧ ∃ acc', (upd H4 D1 (.lst (acc ++ [y]))) D1 = some (.lst acc') ∧ acc'.length ≤ i + 1 ∧ RpL K (upd H4 D1 (.lst (acc ++ [y]))) acc' ((List.range (i + 1)).filterMap f))
      else (Ex H1 H3 ∧ ∃ acc, H3 D1 = some (.lst acc) ∧ acc.length ≤ i + 1 ∧ RpL K H3 acc ((List.range (i + 1)).filterMap f)) := by
  obtain ⟨p1, acc, p2, p3, p4⟩ := p
  refine ht _ _ (fun y H4 d e hf r => ?_) (fun H4 e hf => ?_)
  · have hA : H4 D1 = some (.lst acc) := e _ _ p2
    refine ⟨acc, hA, big_lt (by omega), (p1.trans e).mut hD, acc ++ [y], upd_same, by rw [List.length_append, List.length_singleton]; omega, ?_⟩
    rw [fm_succ, hf]
    exact ((p4.mono e).im (Im.set hA)).snoc (r.im (Im.set hA))
  · refine ⟨p1.trans e, acc, e _ _ p2, by omega, ?_⟩
    rw [fm_succ, hf]
    simpa using p4.mono e
/-- [te for .. in the list at a if tt] -/
theorem lcL {a : Addr} {xs : List V} {vs : List Nat} (f : Nat → Option D) (hx : SqL K H a xs) (hz : xs.length ≤ 100000) (hs : ∀ i x H', xs[i]? = some x → Ex H H' → Turn' K (f i) g tt te vs σ x H')
    (hd : ∀ p ys H', Ex H H' → H p = none → H' p = some (.lst ys) → RpL K H' ys ((List.range xs.length).filterMap f) → Q (.ref p) H') : LcIt (Itl K a) g tt te vs σ H Q := fun D1 hD =>
  lc_list (Qd := Q (.ref D1)) (fun i H' => Ex H H' ∧ ∃ acc, H' D1 = some (.lst acc) ∧ acc.length ≤ i ∧ RpL K H' acc ((List.range i).filterMap f)) ⟨Ex.new hD, [], upd_same, Nat.zero_le _, .nil⟩ (fun _ _ _ p => p.1.l hx)
    (fun i x H' hi p => lc_inv (by have := (List.getElem?_eq_some_iff.mp hi).1; omega) hD p (hs i x H' hi p.1)) (fun H' p => let ⟨e, acc, h1, _, h2⟩ := p; hd D1 acc H' e hD h1 h2)
theorem lcT {a : Addr} {xs : List V} {vs : List Nat} (f : Nat → Option D) (hx : SqT K H a xs) (hz : xs.length ≤ 100000) (hs : ∀ i x H', xs[i]? = some x → Ex H H' → Turn' K (f i) g tt te vs σ x H')
    (hd : ∀ p ys H', Ex H H' → H p = none → H' p = some (.lst ys) → RpL K H' ys ((List.range xs.length).filterMap f) → Q (.ref p) H') : LcIt (Itt K a) g tt te vs σ H Q := fun D1 hD =>
  lc_tup (Qd := Q (.ref D1)) (fun i H' => Ex H H' ∧ ∃ acc, H' D1 = some (.lst acc) ∧ acc.length ≤ i ∧ RpL K H' acc ((List.range i).filterMap f)) ⟨Ex.new hD, [], upd_same, Nat.zero_le _, .nil⟩ (fun _ _ _ p => p.1.t hx)
    (fun i x H' hi p => lc_inv (by have := (List.getElem?_eq_some_iff.mp hi).1; omega) hD p (hs i x H' hi p.1)) (fun H' p => let ⟨e, acc, h1, _, h2⟩ := p; hd D1 acc H' e hD h1 h2)
theorem lcR {lo : Int} {n : Nat} {vs : List Nat} (f : Nat → Option D) (hz : n ≤ 100000) (hs : ∀ i H', i < n → Ex H H' → Turn' K (f i) g tt te vs σ (.int (lo + (i : Int))) H')
    (hd : ∀ p ys H', Ex H H' → H p = none → H' p = some (.lst ys) → RpL K H' ys ((List.range n).filterMap f) → Q (.ref p) H') : LcIt (Itr lo n) g tt te vs σ H Q := fun D1 hD =>
  lc_range (Qd := Q (.ref D1)) (fun i H' => Ex H H' ∧ ∃ acc, H' D1 = some (.lst acc) ∧ acc.length ≤ i ∧ RpL K H' acc ((List.range i).filterMap f)) ⟨Ex.new hD, [], upd_same, Nat.zero_le _, .nil⟩
    (fun i H' hi p => lc_inv (by omega) hD p (hs i H' hi p.1)) (fun H' p => let ⟨e, acc, h1, _, h2⟩ := p; hd D1 acc H' e hD h1 h2)
theorem fm_congr {α β : Type} {f g : α → Option β} : ∀ {l : List α}, (∀ a ∈ l, f a = g a) → l.filterMap f = l.filterMap g
  | [], _ => rfl
  | a :: r, h => by
    rw [List.filterMap_cons, List.filterMap_cons, h a List.mem_cons_self, fm_congr fun b hb => h b (List.mem_cons_of_mem _ hb)]
theorem fm_range {α β : Type} (g : α → Option β) : ∀ (n : Nat) (l : List α), l.length = n → (List.range n).filterMap (fun i => l[i]?.bind g) = l.filterMap g
  | 0, l, h => by rw [List.length_eq_zero_iff.mp h] <;> rfl
  | n + 1, l, h => by
    obtain ⟨r, a, rfl⟩ : ∃ r a, l = r ++ [a] := ⟨l.dropLast, l.getLast (by intro q; rw [q] at h; cases h), (List.dropLast_concat_getLast _).symm⟩
    have hr : r.length = n := by
      rw [List.length_append, List.length_singleton] at h
      omega
    rw [fm_succ, List.filterMap_append, ← fm_range g n r hr]
    congr 1
    · refine fm_congr fun i hi => ?_
      rw [List.getElem?_append_left (by have := List.mem_range.mp hi; omega)]
    · have e : (r ++ [a])[n]? = some a := by rw [← hr, List.getElem?_append_right (Nat.le_refl _), Nat.sub_self]; rfl
      rw [e]
      show (g a).toList = List.filterMap g [a]
      cases h1 : g a with
      | none => simp [h1]
      | some _ => simp [h1]
theorem lcLD {a : Addr} {xs : List V} {ds : List D} {vs : List Nat} (f : D → Option D) (hx : SqL K H a xs) (hr : RpL K H xs ds) (hz : ds.length ≤ 100000) (hs : ∀ (i : Nat) (d : D) (x : V) (H' : Hp), ds[i]? = some d → Ex H H' → Rp K H' x d → Turn' K (f d) g tt te vs σ x H')
    (hd : ∀ p ys H', Ex H H' → H p = none → H' p = some (.lst ys) → RpL K H' ys (ds.filterMap f) → Q (.ref p) H') : LcIt (Itl K a) g tt te vs σ H Q := by
  refine lcL (fun i => ds[i]?.bind f) hx (by rw [hr.len]; exact hz) (fun i x H' hi e => ?_) (fun p ys H' e n h r => ?_)
  · obtain ⟨d, h1, h2⟩ := hr.at' hi
    rw [h1]
    exact hs i d x H' h1 e (h2.mono e)
  · rw [hr.len, fm_range f _ ds rfl] at r
    exact hd p ys H' e n h r
theorem lcTD {a : Addr} {xs : List V} {ds : List D} {vs : List Nat} (f : D → Option D) (hx : SqT K H a xs) (hr : RpL K H xs ds) (hz : ds.length ≤ 100000) (hs : ∀ (i : Nat) (d : D) (x : V) (H' : Hp), ds[i]? = some d → Ex H H' → Rp K H' x d → Turn' K (f d) g tt te vs σ x H')
    (hd : ∀ p ys H', Ex H H' → H p = none → H' p = some (.lst ys) → RpL K H' ys (ds.filterMap f) → Q (.ref p) H') : LcIt (Itt K a) g tt te vs σ H Q := by
  refine lcT (fun i => ds[i]?.bind f) hx (by rw [hr.len]; exact hz) (fun i x H' hi e => ?_) (fun p ys H' e n h r => ?_)
  · obtain ⟨d, h1, h2⟩ := hr.at' hi
    rw [h1]
    exact hs i d x H' h1 e (h2.mono e)
  · rw [hr.len, fm_range f _ ds rfl] at r
    exact hd p ys H' e n h r
theorem lcLI {a : Addr} {ns : List Int} {vs : List Nat} (f : Int → Option D) (hx : SqL K H a (ns.map V.int)) (hz : ns.length ≤ 100000) (hs : ∀ (i : Nat) (n : Int) (H' : Hp), ns[i]? = some n → Ex H H' → Turn' K (f n) g tt te vs σ (.int n) H')
    (hd : ∀ p ys H', Ex H H' → H p = none → H' p = some (.lst ys) → RpL K H' ys (ns.filterMap f) → Q (.ref p) H') : LcIt (Itl K a) g tt te vs σ H Q := by
  refine lcL (fun i => ns[i]?.bind f) hx (by rw [List.length_map]; exact hz) (fun i x H' hi e => ?_) (fun p ys H' e n h r => ?_)
  · rw [List.getElem?_map] at hi
    cases h1 : ns[i]? with
    | none =>
      rw [h1] at hi
      cases hi
    | some n =>
      rw [h1] at hi
      have e2 : V.int n = x := Option.some.inj hi
      rw [← e2]
      exact hs i n H' h1 e
  · rw [List.length_map, fm_range f _ ns rfl] at r
    exact hd p ys H' e n h r
theorem lcTI {a : Addr} {ns : List Int} {vs : List Nat} (f : Int → Option D) (hx : SqT K H a (ns.map V.int)) (hz : ns.length ≤ 100000) (hs : ∀ (i : Nat) (n : Int) (H' : Hp), ns[i]? = some n → Ex H H' → Turn' K (f n) g tt te vs σ (.int n) H')
    (hd : ∀ p ys H', Ex H H' → H p = none → H' p = some (.lst ys) → RpL K H' ys (ns.filterMap f) → Q (.ref p) H') : LcIt (Itt K a) g tt te vs σ H Q := by
  refine lcT (fun i => ns[i]?.bind f) hx (by rw [List.length_map]; exact hz) (fun i x H' hi e => ?_) (fun p ys H' e n h r => ?_)
  · rw [List.getElem?_map] at hi
    cases h1 : ns[i]? with
    | none =>
      rw [h1] at hi
      cases hi
    | some n =>
      rw [h1] at hi
      have e2 : V.int n = x := Option.some.inj hi
      rw [← e2]
      exact hs i n H' h1 e
  · rw [List.length_map, fm_range f _ ns rfl] at r
    exact hd p ys H' e n h r
/-- a turn without a test: the value y stands for d -/
theorem turn_all {d : D} {vs : List Nat} {x : V} {H' : Hp} (h : ∀ R : VK, (∀ y H4, Ex H' H4 → Rp K H4 y d → R y H4) → g x (wipe σ vs) H' fun σ2 H2 => wipe σ2 vs = wipe σ vs ∧ te σ2 H2 R) : Turn' K (some d) g tYes te vs σ x H' := by
  intro R RN k kn
  have h1 := h R fun y H4 e r => k y H4 d e rfl r
  have e : (fun σ2 H2 => wipe σ2 vs = wipe σ vs ∧ tYes σ2 H2 fun b H3 => if b = true then te σ2 H3 R else RN H3) = fun σ2 H2 => wipe σ2 vs = wipe σ vs ∧ te σ2 H2 R := by
    funext σ2 H2
    show (_ ∧ (if true = true then te σ2 H2 R else RN H2)) = _
    rw [if_pos rfl]
  rw [e]
  exact h1
end

/-! ### slices -/
theorem cut_to (xs : List V) (j : Nat) : cutV xs none (some (j : Int)) = xs.take j := by
  unfold cutV
  rw [HT.sIx_none, HT.sIx_nat]
  simp only [List.drop_zero, Nat.sub_zero]
  by_cases h : j ≤ xs.length
  · rw [Nat.min_eq_left h]
  · rw [Nat.min_eq_right (by omega), List.take_length, List.take_of_length_le (by omega)]
theorem cut_from (xs : List V) (i : Nat) : cutV xs (some (i : Int)) none = xs.drop i := by
  unfold cutV
  rw [HT.sIx_none, HT.sIx_nat]
  by_cases h : i ≤ xs.length
  · rw [Nat.min_eq_left h, List.take_of_length_le (by rw [List.length_drop]; omega)]
  · rw [Nat.min_eq_right (by omega), Nat.sub_self, List.take_zero, List.drop_eq_nil_of_le (by omega)]
theorem cut_mid (xs : List V) (i j : Nat) : cutV xs (some (i : Int)) (some (j : Int)) = (xs.drop i).take (j - i) := by
  unfold cutV
  rw [HT.sIx_nat, HT.sIx_nat]
  by_cases h : i ≤ xs.length
  · have e : min i xs.length = i := by omega
    rw [e]
    by_cases h2 : j ≤ xs.length
    · have e2 : min j xs.length = j := by omega
      rw [e2]
    · have e2 : min j xs.length = xs.length := by omega
      rw [e2, List.take_of_length_le (show (xs.drop i).length ≤ xs.length - i by simp), List.take_of_length_le (show (xs.drop i).length ≤ j - i by simp; omega)]
  · have e : min i xs.length = xs.length := by omega
    have e1 : xs.drop xs.length = [] := List.drop_length
    have e2 : xs.drop i = [] := List.drop_eq_nil_of_le (by omega)
    rw [e, e1, e2, List.take_nil, List.take_nil]
/-! ### == of data -/
section
variable {K : PySem.W.Frag} {H H' : Hp} {Q : VK}
def pI (ns : List Int) : List PyData := ns.map PyData.int
theorem canI : ∀ ns : List Int, PyData.canLayAll0 (pI ns) = true
  | [] => rfl
  | n :: r => by
    show (PyData.canLay0 (.int n) && PyData.canLayAll0 (pI r)) = true
    rw [canI r] <;> rfl
theorem depthI : ∀ ns : List Int, PyData.depthAll (pI ns) = 0
  | [] => rfl
  | n :: r => by
    show max (PyData.depth (.int n)) (PyData.depthAll (pI r)) = 0
    rw [depthI r] <;> rfl
theorem shapedLI (ns : List Int) : SeqAt.shaped (.list (pI ns)) = true := by
  unfold SeqAt.shaped
  have e1 : PyData.canLay0 (.list (pI ns)) = true := by
    unfold PyData.canLay0
    exact canI ns
  have e2 : PyData.depth (.list (pI ns)) = 1 := by
    unfold PyData.depth
    rw [depthI]
  rw [e1, e2] <;> rfl
theorem shapedTI (ns : List Int) : SeqAt.shaped (.tuple (pI ns)) = true := by
  unfold SeqAt.shaped
  have e1 : PyData.canLay0 (.tuple (pI ns)) = true := by
    unfold PyData.canLay0
    exact canI ns
  have e2 : PyData.depth (.tuple (pI ns)) = 1 := by
    unfold PyData.depth
    rw [depthI]
  rw [e1, e2] <;> rfl
theorem eqvI : ∀ ns ms : List Int, PyData.eqvAll (pI ns) (pI ms) = decide (ns = ms)
  | [], [] => rfl
  | [], _ :: _ => rfl
  | _ :: _, [] => rfl
  | n :: r, m :: s => by
    show (PyData.eqv (.int n) (.int m) && PyData.eqvAll (pI r) (pI s)) = _
    rw [eqvI r s]
    show ((n == m) && decide (r = s)) = decide (n :: r = m :: s)
    rw [Bool.beq_eq_decide_eq, ← Bool.decide_and]
    exact decide_eq_decide.mpr ⟨fun ⟨a, b⟩ => by rw [a, b], fun h => ⟨(List.cons.inj h).1, (List.cons.inj h).2⟩⟩
theorem DpAll.ints : ∀ ns : List Int, DpAll K H (ns.map V.int) (pI ns)
  | [] => .nil
  | n :: r => .cons (.int n) (DpAll.ints r)
theorem Dp.li {a : Addr} {ns : List Int} (h : SqL K H a (ns.map V.int)) : Dp K H (.ref a) (.list (pI ns)) := .lst h (DpAll.ints ns)
theorem Dp.ti {a : Addr} {ns : List Int} (h : SqT K H a (ns.map V.int)) : Dp K H (.ref a) (.tuple (pI ns)) := .tup h (DpAll.ints ns)
theorem x_eqLI {a b : Addr} {ns ms : List Int} (h1 : SqL K H a (ns.map V.int)) (h2 : SqL K H b (ms.map V.int)) (q : Q (.bl (decide (ns = ms))) H) : rEqD K (.ref a) (.ref b) H Q :=
  ⟨_, _, Dp.li h1, Dp.li h2, shapedLI _, shapedLI _, by
    have e : PyData.eqv (.list (pI ns)) (.list (pI ms)) = decide (ns = ms) := by
      unfold PyData.eqv
      exact eqvI ns ms
    rw [e]
    exact q⟩
theorem x_neLI {a b : Addr} {ns ms : List Int} (h1 : SqL K H a (ns.map V.int)) (h2 : SqL K H b (ms.map V.int)) (q : Q (.bl (!decide (ns = ms))) H) : rNeD K (.ref a) (.ref b) H Q :=
  ⟨_, _, Dp.li h1, Dp.li h2, shapedLI _, shapedLI _, by
    have e : PyData.eqv (.list (pI ns)) (.list (pI ms)) = decide (ns = ms) := by
      unfold PyData.eqv
      exact eqvI ns ms
    rw [e]
    exact q⟩
theorem x_eqTI {a b : Addr} {ns ms : List Int} (h1 : SqT K H a (ns.map V.int)) (h2 : SqT K H b (ms.map V.int)) (q : Q (.bl (decide (ns = ms))) H) : rEqD K (.ref a) (.ref b) H Q :=
  ⟨_, _, Dp.ti h1, Dp.ti h2, shapedTI _, shapedTI _, by
    have e : PyData.eqv (.tuple (pI ns)) (.tuple (pI ms)) = decide (ns = ms) := by
      unfold PyData.eqv
      exact eqvI ns ms
    rw [e]
    exact q⟩
theorem x_neTI {a b : Addr} {ns ms : List Int} (h1 : SqT K H a (ns.map V.int)) (h2 : SqT K H b (ms.map V.int)) (q : Q (.bl (!decide (ns = ms))) H) : rNeD K (.ref a) (.ref b) H Q :=
  ⟨_, _, Dp.ti h1, Dp.ti h2, shapedTI _, shapedTI _, by
    have e : PyData.eqv (.tuple (pI ns)) (.tuple (pI ms)) = decide (ns = ms) := by
      unfold PyData.eqv
      exact eqvI ns ms
    rw [e]
    exact q⟩
theorem x_eqD {x y : V} {d : PyData} (h1 : Dp K H x d) (h2 : Dp K H y d) (hs : SeqAt.shaped d = true) (q : Q (.bl true) H) : rEqD K x y H Q :=
  ⟨_, _, h1, h2, hs, hs, by rw [SeqAt.eqv_refl d (SeqAt.canLay_of_shaped hs)]; exact q⟩
theorem x_neD {x y : V} {d : PyData} (h1 : Dp K H x d) (h2 : Dp K H y d) (hs : SeqAt.shaped d = true) (q : Q (.bl false) H) : rNeD K x y H Q :=
  ⟨_, _, h1, h2, hs, hs, by rw [SeqAt.eqv_refl d (SeqAt.canLay_of_shaped hs)]; exact q⟩
end
/-! ### lists of lists -/
inductive LL (H : Hp) : List Addr → List (List V) → Prop
  | nil : LL H [] []
  | cons {p : Addr} {ps : List Addr} {zs : List V} {zz : List (List V)} : H p = some (.lst zs) → LL H ps zz → LL H (p :: ps) (zs :: zz)
theorem LL.len {H : Hp} {ps : List Addr} {zz : List (List V)} (h : LL H ps zz) : ps.length = zz.length := by
  induction h with
  | nil => rfl
  | cons _ _ ih => exact congrArg Nat.succ ih
theorem LL.mono {H H' : Hp} (e : Ex H H') {ps : List Addr} {zz : List (List V)} (h : LL H ps zz) : LL H' ps zz := by
  induction h with
  | nil => exact .nil
  | cons h _ ih => exact .cons (e _ _ h) ih
theorem LL.set {H : Hp} {l : Addr} {o : HO} {ps : List Addr} {zz : List (List V)} (h : LL H ps zz) (n : l ∉ ps) : LL (upd H l o) ps zz := by
  induction h with
  | nil => exact .nil
  | cons h _ ih =>
    rw [List.mem_cons, not_or] at n
    exact .cons (by rw [upd_ne (Ne.symm n.1)]; exact h) (ih n.2)
theorem LL.snoc {H : Hp} {p : Addr} {zs : List V} {ps : List Addr} {zz : List (List V)} (h : LL H ps zz) (q : H p = some (.lst zs)) : LL H (ps ++ [p]) (zz ++ [zs]) := by
  induction h with
  | nil => exact .cons q .nil
  | cons h _ ih => exact .cons h ih
theorem LL.get {H : Hp} {ps : List Addr} {zz : List (List V)} (h : LL H ps zz) : ∀ {i : Nat} {p : Addr}, ps[i]? = some p → ∃ zs, zz[i]? = some zs ∧ H p = some (.lst zs) := by
  induction h with
  | nil =>
    intro i p e
    simp at e
  | cons h _ ih =>
    intro i p e
    cases i with
    | zero =>
      simp at e
      subst e
      exact ⟨_, rfl, h⟩
    | succ i => exact ih (by simpa using e)
section
variable {K : PySem.W.Frag} {σ : L2.St} {H : Hp} {Q : VK} {te : TE} {g : TG}
theorem tYes_eq {σ2 : L2.St} {H2 : Hp} {A B : Hp → Prop} : (tYes σ2 H2 fun b H3 => if b = true then A H3 else B H3) = A H2 := by
  show (if true = true then A H2 else B H2) = A H2
  rw [if_pos rfl]
/-- a comprehension of new lists, over a tuple -/
theorem lcT_lists {a : Addr} {xs : List V} {vs : List Nat} (f : Nat → List V) (hx : SqT K H a xs) (hz : xs.length ≤ 100000)
    (hs : ∀ (i : Nat) (x : V) (H' : Hp), xs[i]? = some x → Ex H H' → ∀ R : VK, (∀ p H4, H' p = none → Ex H' H4 → H4 p = some (.lst (f i)) → R (.ref p) H4) → g x (wipe σ vs) H' fun σ2 H2 => wipe σ2 vs = wipe σ vs ∧ te σ2 H2 R)
    (hd : ∀ D1 ps H', Ex H H' → H D1 = none → H' D1 = some (.lst (ps.map V.ref)) → LL H' ps ((List.range xs.length).map f) → Q (.ref D1) H') : LcIt (Itt K a) g tYes te vs σ H Q := fun D1 hD => by
  refine lc_tup (Qd := Q (.ref D1)) (fun i H' => Ex H H' ∧ ∃ ps, H' D1 = some (.lst (ps.map V.ref)) ∧ D1 ∉ ps ∧ ps.length = i ∧ LL H' ps ((List.range i).map f)) ⟨Ex.new hD, [], upd_same, by simp, rfl, .nil⟩ (fun _ _ _ p => p.1.t hx) ?_ (fun H' p => let ⟨e, ps, h1, _, _, h2⟩ := p; hd D1 ps H' e hD h1 h2)
  rintro i x H' hi ⟨e, ps, h1, h2, h3, h4⟩
  have hil := (List.getElem?_eq_some_iff.mp hi).1
  have h := hs i x H' hi e (fun y H4 => ∃ acc, H4 D1 = some (.lst acc) ∧ acc.length < sizeLine ∧ (Ex H (upd H4 D1 (.lst (acc ++ [y]))) ∧ ∃ ps, upd H4 D1 (.lst (acc ++ [y])) D1 = some (.lst (ps.map V.ref)) ∧ D1 ∉ ps ∧ ps.length = i + 1 ∧ LL (upd H4 D1 (.lst (acc ++ [y]))) ps ((List.range (i + 1)).map f))) (fun p H4 np e4 hp => by
    have hA : H4 D1 = some (.lst (ps.map V.ref)) := e4 _ _ h1
    have hne : D1 ≠ p := ne_of_none h1 np
    refine ⟨_, hA, big_lt (by rw [List.length_map]; omega), (e.trans e4).mut hD, ps ++ [p], by rw [upd_same, List.map_append] <;> rfl, by simp [h2, hne], by simp [h3], ?_⟩
    rw [List.range_succ, List.map_append]
    exact ((h4.mono e4).set h2).snoc (by rw [upd_ne (Ne.symm hne)]; exact hp))
  simp only [tYes_eq]
  exact h
/-- two clauses over a list of lists: for r in rows for c in r -/
theorem lc2LL {a : Addr} {ps : List Addr} {zz : List (List V)} {r c : Nat} {vs vs1 : List Nat} (F : V → D) (hsrc : SqL K H a (ps.map V.ref)) (hl : LL H ps zz) (hz : zz.flatten.length ≤ 100000)
    (hw : ∀ x, wipe ((wipe σ vs).set r (some x)) vs = wipe σ vs) (hw1 : ∀ x y, wipe ((wipe ((wipe σ vs).set r (some x)) vs1).set c (some y)) vs1 = wipe ((wipe σ vs).set r (some x)) vs1) (hr : ∀ x, ((wipe σ vs).set r (some x))[r]? = some (some x))
    (hs : ∀ z ∈ zz.flatten, ∀ (x : V) (H' : Hp), Ex H H' → ∀ R : VK, (∀ y H4, Ex H' H4 → Rp K H4 y (F z) → R y H4) → te ((wipe ((wipe σ vs).set r (some x)) vs1).set c (some z)) H' R)
    (hd : ∀ D1 ys H', Ex H H' → H D1 = none → H' D1 = some (.lst ys) → RpL K H' ys (zz.flatten.map F) → Q (.ref D1) H') : Lc2It (Itl K a) (gName r) tYes (iList K (tVar r)) (gName c) tYes te vs vs1 σ H Q := fun D1 hD => by
  refine ⟨fun i m H' => m = ps.length - i ∧ i ≤ ps.length ∧ Ex H H' ∧ ∃ acc, H' D1 = some (.lst acc) ∧ RpL K H' acc ((zz.take i).flatten.map F), ⟨ps.length, rfl, Nat.zero_le _, Ex.new hD, [], upd_same, .nil⟩, ?_⟩
  rintro i m H' ⟨rfl, hi, e, acc, hA, hR⟩
  have hlen := hl.len
  have hsrc' : SqL K H' a (ps.map V.ref) := e.l hsrc
  by_cases hlt : i < ps.length
  · obtain ⟨zs, hzs, hp⟩ := hl.get (i := i) (p := ps[i]) (List.getElem?_eq_getElem hlt)
    have hx : (ps.map V.ref)[i]? = some (.ref ps[i]) := by rw [List.getElem?_map, List.getElem?_eq_getElem hlt]; rfl
    have htk : (zz.take (i + 1)).flatten = (zz.take i).flatten ++ zs := by
      rw [List.take_add_one, hzs]
      simp
    have hsub : ∀ k, ((zz.take i).flatten ++ zs.take k).length ≤ zz.flatten.length := by
      intro k
      have h1 : zz.flatten = (zz.take (i + 1)).flatten ++ (zz.drop (i + 1)).flatten := by rw [← List.flatten_append, List.take_append_drop]
      rw [h1, htk]
      simp only [List.length_append, List.length_take]
      omega
    refine .inr ⟨⟨_, _, hsrc', hx⟩, fun H2 => Ex H H2 ∧ ∃ acc, H2 D1 = some (.lst acc) ∧ RpL K H2 acc ((zz.take (i + 1)).flatten.map F), fun H2 ⟨e2, acc2, h2, r2⟩ => ⟨ps.length - (i + 1), by omega, rfl, by omega, e2, acc2, h2, r2⟩, ?_⟩
    rintro x H2 ⟨rfl, hy⟩
    have ex : x = .ref ps[i] := Option.some.inj ((hy _ hsrc').symm.trans hx)
    subst ex
    refine ⟨hw _, ?_⟩
    refine x_yes (b_t rfl ?_)
    refine ⟨_, hr _, _, rfl, ⟨zs, SqL.of (e _ _ hp)⟩, ?_⟩
    refine ⟨fun j k H3 => k = zs.length - j ∧ j ≤ zs.length ∧ Ex H H3 ∧ ∃ acc, H3 D1 = some (.lst acc) ∧ RpL K H3 acc (((zz.take i).flatten ++ zs.take j).map F), ⟨zs.length, rfl, Nat.zero_le _, e, acc, hA, by simpa using hR⟩, ?_⟩
    rintro j k H3 ⟨rfl, hj, e3, acc3, hA3, hR3⟩
    have hsz : SqL K H3 ps[i] zs := SqL.of (e3 _ _ hp)
    by_cases hjl : j < zs.length
    · have hzj : zs[j]? = some zs[j] := List.getElem?_eq_getElem hjl
      refine .inr ⟨⟨_, _, hsz, hzj⟩, fun H4 => Ex H H4 ∧ ∃ acc, H4 D1 = some (.lst acc) ∧ RpL K H4 acc (((zz.take i).flatten ++ zs.take (j + 1)).map F), fun H4 ⟨e4, acc4, h4, r4⟩ => ⟨zs.length - (j + 1), by omega, rfl, by omega, e4, acc4, h4, r4⟩, ?_⟩
      rintro y H4 ⟨rfl, hy4⟩
      have ey : y = zs[j] := Option.some.inj ((hy4 _ hsz).symm.trans hzj)
      subst ey
      refine ⟨hw1 _ _, ?_⟩
      refine x_yes (b_t rfl ?_)
      have hmem : zs[j] ∈ zz.flatten := List.mem_flatten.mpr ⟨zs, List.mem_of_getElem? hzs, List.getElem_mem hjl⟩
      refine hs _ hmem _ _ e3 _ fun v H5 e5 r5 => ?_
      have hA5 := e5 _ _ hA3
      refine ⟨acc3, hA5, big_lt ?_, (e3.trans e5).mut hD, acc3 ++ [v], upd_same, ?_⟩
      · have h6 := hR3.len
        rw [List.length_map] at h6
        have h7 := hsub (j + 1)
        have h8 : ((zz.take i).flatten ++ zs.take j).length < ((zz.take i).flatten ++ zs.take (j + 1)).length := by
          simp only [List.length_append, List.length_take]
          omega
        omega
      · have h9 : (zz.take i).flatten ++ zs.take (j + 1) = ((zz.take i).flatten ++ zs.take j) ++ [zs[j]] := by
          rw [List.take_add_one, hzj, List.append_assoc] <;> rfl
        rw [h9, List.map_append]
        exact ((hR3.mono e5).im (Im.set hA5)).snoc (r5.im (Im.set hA5))
    · have ej : j = zs.length := by omega
      subst ej
      refine .inl ⟨⟨zs, hsz, Nat.le_refl _⟩, e3, acc3, hA3, ?_⟩
      rw [htk]
      rw [List.take_length] at hR3
      exact hR3
  · have ei : i = ps.length := by omega
    subst ei
    refine .inl ⟨⟨_, hsrc', by simp⟩, hd D1 acc H' e hD hA ?_⟩
    rw [hlen, List.take_length] at hR
    exact hR
end

/-! ### calls of the text's defs -/
section
variable (P : Program) (w : World) (K : PySem.W.Frag) (mg : Str → Option Value) (base : Heap)
/-- the def x keeps the promise sp; all its parameters are given by place -/
structure Cal (x : Str) (k : Nat) (ps : List Str) (sp : Sp) : Prop where
  ex : ∃ fd, mg x = some (.ref (He.ga K x)) ∧ PySem.W.keepIn K (.ref (He.ga K x)) = true ∧ Binds K fd ps [] ∧ FnOk P w K mg base CX0 k (He.ga K x) fd ps sp
/-- .. the defaults dvs fill up -/
structure CalD (x : Str) (k : Nat) (ps : List Str) (sp : Sp) (dvs : List V) : Prop where
  ex : ∃ fd ds, mg x = some (.ref (He.ga K x)) ∧ PySem.W.keepIn K (.ref (He.ga K x)) = true ∧ Vals dvs ds ∧ Binds K fd ps ds ∧ FnOk P w K mg base CX0 k (He.ga K x) fd ps sp
/-- .. by n places and the keywords ks -/
structure CalN (x : Str) (k : Nat) (ps : List Str) (sp : Sp) (n : Nat) (ks : List Str) (gV : List V → List V → List V) : Prop where
  ex : ∃ fd g, mg x = some (.ref (He.ga K x)) ∧ PySem.W.keepIn K (.ref (He.ga K x)) = true ∧ KBn K fd ps n ks g gV ∧ FnOk P w K mg base CX0 k (He.ga K x) fd ps sp
end
section
variable {X : Cx} {k n : Nat} {ps ks : List Str} {sp : Sp} {dvs : List V} {x : Str} {p pos : Pos} {e : Expr} {es : List Expr} {kws : List Keyword} {t tk : TA} {gV : List V → List V → List V}
theorem pe_cal (c : Cal X.prog X.w X.K X.mg X.base x k ps sp) (hr : Room k X.A) (hg : Gl X x) (ha : PA X (e :: es) t) (hdb : (x == ("__debug__" : Str)) = false := by decide) (he : starEach (e :: es) X.env = (false, eval e X.env) :: starEach es X.env := by rfl) (hpl : (backTo pos (starEach es X.env)).any (·.1) = false := by rfl) :
    PE X (.Call (.Name x p) (e :: es) [] pos) (tCall sp [] E0 t) := by
  obtain ⟨fd, m, kp, b, G⟩ := c.ex
  exact pe_call G hr hg m kp b .nil pass0 ha hdb he hpl
theorem pe_cal0 (c : Cal X.prog X.w X.K X.mg X.base x k ps sp) (hr : Room k X.A) (hg : Gl X x) (hdb : (x == ("__debug__" : Str)) = false := by decide) : PE X (.Call (.Name x p) [] [] pos) (tCall sp [] E0 tNil) := by
  obtain ⟨fd, m, kp, b, G⟩ := c.ex
  exact pe_call0 G hr hg m kp b .nil pass0 hdb
theorem pe_calD (c : CalD X.prog X.w X.K X.mg X.base x k ps sp dvs) (hr : Room k X.A) (hg : Gl X x) (ha : PA X (e :: es) t) (hdb : (x == ("__debug__" : Str)) = false := by decide) (he : starEach (e :: es) X.env = (false, eval e X.env) :: starEach es X.env := by rfl) (hpl : (backTo pos (starEach es X.env)).any (·.1) = false := by rfl) :
    PE X (.Call (.Name x p) (e :: es) [] pos) (tCall sp dvs E0 t) := by
  obtain ⟨fd, ds, m, kp, hv, b, G⟩ := c.ex
  exact pe_call G hr hg m kp b hv pass0 ha hdb he hpl
theorem pe_calN {m : Nat} (c : CalN X.prog X.w X.K X.mg X.base x k ps sp n ks gV) (hr : Room k X.A) (hg : Gl X x) (ha : PA X (e :: es) t) (hkw : PK X kws tk) (hall : (backToKw pos (keywordEach kws X.env)).all (·.1.isSome) = true := by rfl) (hks : (backToKw pos (keywordEach kws X.env)).filterMap (·.1) = ks := by rfl)
    (hdb : (x == ("__debug__" : Str)) = false := by decide) (he : starEach (e :: es) X.env = (false, eval e X.env) :: starEach es X.env := by rfl)
    (hpl : ((backTo pos (starEach (e :: es) X.env)).any (·.1) || (backToKw pos (keywordEach kws X.env)).any (·.1.isNone)) = false := by rfl) (hm : ks.length = m := by rfl) :
    PE X (.Call (.Name x p) (e :: es) kws pos) (tCallN n m sp gV E0 t tk) := by
  subst hm
  obtain ⟨fd, g, m, kp, b, G⟩ := c.ex
  exact L2.pe_callN G hr hg m kp b pass0 ha hkw hall hks hdb he hpl
end
end Xl

/-! Own: instances of the text's own classes, step by step (own work). -/
namespace Xl
open PySem PySem.Spec PyProof.Rows L2

/-- a statement that no run reaches -/
def tNo : TS := fun _ _ _ => False
theorem ps_no {X : Cx} {st : Stmt} : PS X st tNo := ⟨fun _ _ _ _ _ _ h => h.elim⟩
def tNoE : TE := fun _ _ _ => False
theorem pe_no {X : Cx} {e : Expr} : PE X e tNoE := ⟨fun _ _ _ _ _ _ h => h.elim⟩

section
variable (P : Program) (w : World) (K : PySem.W.Frag) (mg : Str → Option Value) (base : Heap)
/-- C(..) by its __init__ -/
structure CalM (x : Str) (k : Nat) (ps : List Str) (sp : Sp) : Prop where
  ex : ∃ f fd, mg x = some (.ref (He.ga K x)) ∧ Mk K (He.ga K x) f ∧ Binds K fd ps [] ∧ FnOk P w K mg base CX0 k f fd ps sp
/-- a property of C -/
structure CalP (x f : Str) (k : Nat) (ps : List Str) (sp : Sp) : Prop where
  ex : ∃ p g fd, Cls K (He.ga K x) ∧ PropOf K (He.ga K x) f p g ∧ Binds K fd ps [] ∧ FnOk P w K mg base CX0 k g fd ps sp
/-- a classmethod of C -/
structure CalC (x m : Str) (k : Nat) (ps : List Str) (sp : Sp) : Prop where
  ex : ∃ p g fd, mg x = some (.ref (He.ga K x)) ∧ ClX.CRead K (He.ga K x) (.type "type") ∧ ClX.CMet K (He.ga K x) (.type "type") m p g ∧ Binds K fd ps [] ∧ FnOk P w K mg base CX0 k g fd ps sp
/-- a method of C -/
structure CalT (x m : Str) (k : Nat) (ps : List Str) (sp : Sp) : Prop where
  ex : ∃ g fd, Cls K (He.ga K x) ∧ Meth K (He.ga K x) m g ∧ Binds K fd ps [] ∧ FnOk P w K mg base CX0 k g fd ps sp
end

/-- c(e, ..), c a value that is the class at C -/
def tMakeV (C : Addr) (sp : Sp) (tf : TE) (t : TA) : TE := fun σ H Q => tf σ H fun c H0 => c = .ref C ∧ t σ H0 fun vs H1 => ∀ x dx, H1 x = none → H1 dx = none → dx ≠ x →
  sp (.ref x :: vs) (upd (upd H1 dx (.own x)) x (.ins C dx [])) (fun v H2 => v = .non ∧ Q (.ref x) H2) E0
section
variable {X : Cx} {k n : Nat} {ps ks : List Str} {sp : Sp} {x f m : Str} {p pos apos : Pos} {o e : Expr} {es : List Expr} {t : TA} {tf ta : TE}
theorem pe_calM (c : CalM X.prog X.w X.K X.mg X.base x k ps sp) (hr : Room (k + 1) X.A) (hg : Gl X x) (ha : PA X (e :: es) t)
    (hdb : (x == ("__debug__" : Str)) = false := by decide) (he : starEach (e :: es) X.env = (false, eval e X.env) :: starEach es X.env := by rfl) (hpl : (backTo pos (starEach es X.env)).any (·.1) = false := by rfl) :
    PE X (.Call (.Name x p) (e :: es) [] pos) (tMake (He.ga X.K x) sp [] E0 t) := by
  obtain ⟨g, fd, m, M, b, F⟩ := c.ex
  exact pe_make M F hr hg m b .nil pass0 ha hdb he hpl
theorem pe_calMV {y : Str} (c : CalM X.prog X.w X.K X.mg X.base x k ps sp) (hr : Room (k + 1) X.A) (hf : PE X (.Name y p) tf) (ha : PA X (e :: es) t)
    (he : starEach (e :: es) X.env = (false, eval e X.env) :: starEach es X.env := by rfl) (hpl : (backTo pos (starEach es X.env)).any (·.1) = false := by rfl) :
    PE X (.Call (.Name y p) (e :: es) [] pos) (tMakeV (He.ga X.K x) sp tf t) := by
  obtain ⟨g, fd, _, M, b, F⟩ := c.ex
  refine ⟨fun pins s σ H Q I h => ?_⟩
  refine wpAny_Call_Name_kw (thn (hf.run pins s σ H _ I h) fun u s1 ⟨c, H1, I1, rc, ec, q1⟩ => ?_)
  subst ec
  obtain rfl : u = Value.ref _ := rc
  refine PySem.W.callWith_K (h₀ := X.base) I.ok.mod.kin M.kp (thn (ha.run pos pins s1 σ H1 _ I1 q1) fun us s2 ⟨vs, H2, I2, r, q⟩ => ⟨I2.kIn, ?_⟩) he hpl
  exact run_make M F hr b .nil pass0 I2 r (fun y dx h1 h2 h3 => by rw [List.append_nil]; exact q y dx h1 h2 h3)
theorem pe_calP (c : CalP X.prog X.w X.K X.mg X.base x f k ps sp) (hr : Room (k + 1) X.A) (he : PE X e ta) (hab : attributeBase e f X.env (eval e X.env) = eval e X.env := by rfl) :
    PE X (.Attribute e f pos) (tProp (He.ga X.K x) sp [] E0 ta) := by
  obtain ⟨q, g, fd, C, hp, b, F⟩ := c.ex
  exact pe_prop he C hp F hr b .nil pass0 hab
theorem pe_calT {pl : Sem Bool} (c : CalT X.prog X.w X.K X.mg X.base x m k ps sp) (hr : Room k X.A) (he : PE X o ta) (ha : PA X (e :: es) t)
    (hst : starEach (e :: es) X.env = (false, eval e X.env) :: starEach es X.env := by rfl) (hpl : (backTo pos (starEach es X.env)).any (·.1) = false := by rfl)
    (ht : eval (.Call (.Attribute o m apos) (e :: es) [] pos) X.env = (do
      let ov ← eval o X.env
      standAt apos.atName
      let (f, first) ← holding [ov] (getMethod ov m pl)
      callWith pos f first (backTo pos (starEach (e :: es) X.env)) (backToKw pos (keywordEach [] X.env))) := by rfl) :
    PE X (.Call (.Attribute o m apos) (e :: es) [] pos) (tMeth (He.ga X.K x) m sp [] E0 ta t) := by
  obtain ⟨g, fd, C, M, b, F⟩ := c.ex
  exact pe_meth (pl := pl) he C M F hr b .nil pass0 ha hst hpl ht
theorem pe_calC {pl : Sem Bool} (c : CalC X.prog X.w X.K X.mg X.base x m k ps sp) (hr : Room k X.A) (he : PE X o ta) (ha : PA X (e :: es) t)
    (hst : starEach (e :: es) X.env = (false, eval e X.env) :: starEach es X.env := by rfl) (hpl : (backTo pos (starEach es X.env)).any (·.1) = false := by rfl)
    (ht : eval (.Call (.Attribute o m apos) (e :: es) [] pos) X.env = (do
      let ov ← eval o X.env
      standAt apos.atName
      let (f, first) ← holding [ov] (getMethod ov m pl)
      callWith pos f first (backTo pos (starEach (e :: es) X.env)) (backToKw pos (keywordEach [] X.env))) := by rfl) :
    PE X (.Call (.Attribute o m apos) (e :: es) [] pos) (ClX.tCMeth (He.ga X.K x) sp E0 ta t) := by
  obtain ⟨q, g, fd, mm, r, cm, b, F⟩ := c.ex
  exact ClX.pe_cmeth (pl := pl) he r cm ((F.raw b .nil).imp fun vs H Q E h => by rw [List.append_nil]; exact h) hr pass0 ha hst hpl ht
end

/-! ### x != y, x == y, x < y, str(x) by the text's own methods -/
section
variable {M : Model} {prog : Program} {w : World} {A : Around} {E : Value → Shared → Prop} {s : Shared} {K : PySem.W.Frag} {x y C f : Addr} {ox oy : Obj} {od od' : Option Obj}
theorem ifBound_ne {args : List Value} {Q : Option Value → Shared → Prop} (X : K.In s.heap) (I : PySem.W.InstAt s.heap x ox C od) (hs : PySem.W.findIn K (.ref C) "__ne__" = some (some (.builtin "object.__ne__")))
    (h : wpAny M A (call (.builtin "object.__ne__") (.ref x :: args)) (fun v => Q (some v)) E s) : wpAny M A (callSpecialIfBound? (.ref x) "__ne__" args) Q E s := by
  simp only [callSpecialIfBound?, bindSpecialIfBound?]
  refine wpAny_holding (wpAny_bind (wpAny_bind (wpAny_bind (I.type.here ((PySem.W.looks_findIn X hs).here ?_)))))
  refine wpAny_bind (wpAny_askSetting (wpAny_ite ?_))
  have fin : wpAny M A (call (.builtin "object.__ne__") ([.ref x] ++ args) >>= fun v => pure (some v)) Q E s := wpAny_bind (wpAny_mono h (fun v s' h' => wpAny_pure h') fun _ _ h' => h')
  split
  · exact wpAny_bind (wpAny_of_eq (F.cmp_object.ne.bind _) (wpAny_pure (by exact fin)))
  · exact wpAny_tryCatch (wpAny_bind (wpAny_of_eq (F.cmp_object.ne.bind _) (wpAny_pure (by exact fin))))
theorem entry_ne {Q : PySem.Fin → Shared → Prop} (hu : A.units < cLine) (X : K.In s.heap) (I : PySem.W.InstAt s.heap x ox C od) (hs : PySem.W.findIn K (.ref C) "__eq__" = some (some (.ref f))) (hf : PySem.W.isFn K (.ref f) = true)
    (h : wpAny (model prog w) A (call (.ref f) [.ref x, .ref y]) (fun v s' => ∃ b, v = .bool b ∧ Q (.done (.ret (.bool (!b)))) s') E s) :
    wpAny (model prog w) A (Builtin.«object.__ne__» ⟨[.ref x, .ref y], []⟩) Q E s := by
  unfold Builtin.«object.__ne__»
  repeat (first
    | with_reducible refine wpAny_cRoomFor hu ?_
    | (refine wpAny_bind (m := callSpecialIfBound? (.ref x) (Str.ofString "__eq__") [.ref y])
        (PySem.W.ifBound_K X I hs hf (wpAny_mono h (fun r s' hr => by
          obtain ⟨b, rfl, hq⟩ := hr
          repeat (first | exact hq | exact wpAny_pure hq | exact wpAny_truthy_bool hq | (refine wpAny_bind (m := truthy (.bool _)) (wpAny_truthy_bool ?_)) | wp_step)) fun _ _ e => e)))
    | wp_step)
theorem ne_own {Q : Value → Shared → Prop} (hu : A.units + 1 < cLine) (X : K.In s.heap) (I : PySem.W.InstAt s.heap x ox C od) (J : PySem.W.InstAt s.heap y oy C od') (hm : PySem.W.mroIn K C (.type "object") = some true)
    (hn : PySem.W.findIn K (.ref C) "__ne__" = some (some (.builtin "object.__ne__"))) (hs : PySem.W.findIn K (.ref C) "__eq__" = some (some (.ref f))) (hf : PySem.W.isFn K (.ref f) = true)
    (h : wpAny (model prog w) A.in1 (call (.ref f) [.ref x, .ref y]) (fun v s' => ∃ b, v = .bool b ∧ Q (.bool (!b)) s') E s) :
    wpAny (model prog w) A (richCompare .NotEq (.ref x) (.ref y)) Q E s := by
  have one : wpAny (model prog w) A (tryCompare (.ref x) "__ne__" (.ref y)) (fun r s' => ∃ b, r = some (.bool b) ∧ Q (.bool b) s') E s := by
    unfold tryCompare
    refine wpAny_bind (ifBound_ne X I hn (wpAny_call (codeAny_call_builtin F.cmp_object.ne.plain F.cmpEntry_ne (PySem.W.check_slot F.cmpKind_ne F.cmpSplit_ne (I.type.andThen (PySem.W.looks_mroIn X hm)) (F.cmpArgs_ne _ _)
      (entry_ne (A := A.in1) hu X I hs hf (wpAny_mono h (fun v s' hv => ?_) fun _ _ e => e))))))
    obtain ⟨b, rfl, hq⟩ := hv
    exact ⟨b, rfl, wpAny_pure ⟨_, rfl, hq⟩⟩
  unfold richCompare
  simp only [oneThing_ref]
  refine wpAny_holding (wpAny_bind (wpAny_cRoomFor (Nat.lt_of_succ_lt hu) ?_))
  rw [cmpInfo_NotEq]
  dsimp only
  refine wpAny_bind (I.type.here (wpAny_bind (J.type.here ?_)))
  rw [show (Value.ref C != Value.ref C) = false from by simp]
  simp only [Bool.false_eq_true, if_false]
  refine wpAny_bind (wpAny_pure ?_)
  simp only [Bool.false_eq_true, if_false]
  refine wpAny_bind (wpAny_mono one (fun v s' hv => ?_) fun _ _ e => e)
  obtain ⟨b, rfl, hq⟩ := hv
  first | exact wpAny_pure hq | exact wpAny_pure (wpAny_pure hq)
end

/-- two instances of the class at C, compared by the own method whose promise is sp -/
def rOwn2 (C : Addr) (sp : Sp) (g : Bool → Bool) : R2 := fun x y H Q => ∃ a b dx dy fs gs, x = .ref a ∧ y = .ref b ∧ H a = some (.ins C dx fs) ∧ H b = some (.ins C dy gs) ∧ sp [.ref a, .ref b] H (fun v H' => ∃ r, v = .bl r ∧ Q (.bl (g r)) H') E0
/-- what != asks of the class -/
structure NeOk (K : PySem.W.Frag) (C : Addr) : Prop where
  mro : PySem.W.mroIn K C (.type "object") = some true
  ne : PySem.W.findIn K (.ref C) "__ne__" = some (some (.builtin "object.__ne__"))
section
variable {X : Cx} {k : Nat} {ps : List Str} {sp : Sp} {x : Str}
theorem run_own {A : Around} {pins : List (Addr × Obj)} {σ : L2.St} {H : Hp} {s : Shared} {Q : VK} {a b g : Addr} {fd : FuncData} (F : FnOk X.prog X.w X.K X.mg X.base CX0 k g fd ps sp) (hb : Binds X.K fd ps []) (hr : Room k A) (hA : A.frames = X.A.frames) (I : Inv X pins σ H s)
    (h : sp [.ref a, .ref b] H Q E0) : wpAny (model X.prog X.w) A (call (.ref g) [.ref a, .ref b]) (EP X pins σ Q) X.xe s := by
  have e0 : Env0 X.prog X.w X.K X.mg X.base A X.stack s H := by
    have e := I.env0
    exact ⟨by rw [hA]; exact e.frames, e.mod, e.bs, e.bsz, e.funs, e.frf, e.hok, e.bare⟩
  have hl := F.len _ _ _ _ h
  have r2 : Vals [V.ref a, V.ref b] [Value.ref a, Value.ref b] := .cons rfl (.cons rfl .nil)
  refine wpAny_call (codeAny_mono (F.run A X.stack s H ⟨[.ref a, .ref b], []⟩ [.ref a, .ref b] [.ref a, .ref b] _ E0 hr e0 (by
    have := hb s [.ref a, .ref b] I.kIn (by simpa using hl)
    simpa using this) r2 h) fun r s' hq => ?_)
  cases r with
  | error e => exact pass0 pins σ H s e s' I hq
  | ok fl =>
    cases fl with
    | ret w => exact I.after hq
    | next => exact False.elim hq
    | brk => exact False.elim hq
    | cont => exact False.elim hq
theorem op_neOwn (c : CalT X.prog X.w X.K X.mg X.base x "__eq__" k ps sp) (n : NeOk X.K (He.ga X.K x)) (hr : Room (k + 1) X.A) : OpR X (compareOp .NotEq) (rOwn2 (He.ga X.K x) sp (!·)) := by
  intro pins s σ H y z u v Q I ry rz h
  obtain ⟨a, b, dx, dy, fs, gs, rfl, rfl, ha, hb, hq⟩ := h
  cases ry
  cases rz
  obtain ⟨g, fd, C, M, bd, F⟩ := c.ex
  obtain ⟨mA, J, _⟩ := ins_get I.hok ha
  obtain ⟨mB, J', _⟩ := ins_get I.hok hb
  obtain ⟨od, J, _⟩ := J.look
  obtain ⟨od', J', _⟩ := J'.look
  refine ne_own (hu_of hr) I.kIn J J' n.mro n.ne M.at_ M.fn ?_
  refine wpAny_mono (run_own F bd hr.in1 rfl I hq) (fun v s' z => ?_) fun _ _ e => e
  obtain ⟨w, H', I', rw, b, rfl, q⟩ := z
  cases rw
  exact ⟨b, rfl, .bl (!b), H', I', rfl, q⟩
theorem op_own2 {op : CmpOp} {m : Str} (c : CalT X.prog X.w X.K X.mg X.base x m k ps sp) (hr : Room k X.A) (hop : ∀ a b, compareOp op a b = richCompare op a b) (hm : m = (cmpInfo op).2.1) : OpR X (compareOp op) (rOwn2 (He.ga X.K x) sp id) := by
  intro pins s σ H y z u v Q I ry rz h
  obtain ⟨a, b, dx, dy, fs, gs, rfl, rfl, ha, hb, hq⟩ := h
  cases ry
  cases rz
  obtain ⟨g, fd, C, M, bd, F⟩ := c.ex
  obtain ⟨mA, J, _⟩ := ins_get I.hok ha
  obtain ⟨mB, J', _⟩ := ins_get I.hok hb
  obtain ⟨od, J, _⟩ := J.look
  obtain ⟨od', J', _⟩ := J'.look
  obtain ⟨m', hF⟩ := I.fr
  rw [hop]
  refine PySem.W.cmp_K (op := op) (tb := .ref (He.ga X.K x)) (Nat.lt_of_succ_lt (hu_of hr)) hF I.ok.mod.kin J J'.type (by simp [PySem.W.notFirst]) (by rw [← hm]; exact M.at_) M.fn ?_
  refine wpAny_mono (run_own F bd hr rfl I hq) (fun v s' z => ?_) fun _ _ e => e
  obtain ⟨w, H', I', rw, b, rfl, q⟩ := z
  cases rw
  exact ⟨.bl b, H', I', rfl, q⟩
/-- str(x), x an instance with the own __str__ -/
def rStrOwn (C : Addr) (sp : Sp) : List V → Hp → VK → Prop := fun xs H Q => ∃ a dx fs, xs = [.ref a] ∧ H a = some (.ins C dx fs) ∧ sp [.ref a] H (fun v H' => ∃ z, v = .str z ∧ Q v H') E0
theorem call_strOwn (c : CalT X.prog X.w X.K X.mg X.base x "__str__" k ps sp) (hr : Room (k + 2) X.A) : CallR X (.type "str") (rStrOwn (He.ga X.K x) sp) := by
  intro pins s σ H xs us Q I r h
  obtain ⟨a, dx, fs, rfl, ha, q⟩ := h
  obtain ⟨u, rfl, ru⟩ := r.one
  cases ru
  obtain ⟨g, fd, C, M, bd, F⟩ := c.ex
  obtain ⟨mA, J, _⟩ := ins_get I.hok ha
  obtain ⟨od, J, _⟩ := J.look
  refine PySem.W.kso_call (Nat.lt_of_succ_lt (hu_of hr.in1.in1)) I.kIn J M.at_ M.fn ?_
  have e0 : Env0 X.prog X.w X.K X.mg X.base X.A.in1.in1 X.stack s H := I.env0.in1.in1
  have hl := F.len _ _ _ _ q
  have r2 : Vals [V.ref a] [Value.ref a] := .cons rfl .nil
  refine wpAny_call (codeAny_mono (F.run X.A.in1.in1 X.stack s H ⟨[.ref a], []⟩ [.ref a] [.ref a] _ E0 hr.in1.in1 e0 (by
    have := bd s [.ref a] I.kIn (by simpa using hl)
    simpa using this) r2 q) fun r s' hq => ?_)
  cases r with
  | error e => exact pass0 pins σ H s e s' I hq
  | ok fl =>
    cases fl with
    | ret w =>
      obtain ⟨z, H', I', rz, y, rfl, q2⟩ := I.after hq
      obtain ⟨t, rfl⟩ := rz
      exact ⟨.str y, H', I', ⟨t, rfl⟩, q2⟩
    | next => exact False.elim hq
    | brk => exact False.elim hq
    | cont => exact False.elim hq
end

/-! ### text * int, {i:d}, f-strings -/
/-- z repeated, as the model makes it -/
def repS (z : Str) (n : Int) : Str := if n < 1 then Str.empty else if (n == 1 || z.length == 0) = true then z else ⟨(List.replicate n.toNat z.cps).foldl (· ++ ·) #[]⟩
theorem fold_size {α : Type} (a : Array α) : ∀ (k : Nat) (b : Array α), ((List.replicate k a).foldl (· ++ ·) b).size = b.size + k * a.size
  | 0, b => by simp
  | k + 1, b => by
    rw [List.replicate_succ, List.foldl_cons, fold_size a k, Array.size_append, Nat.add_mul]
    omega
theorem repS_len {z : Str} {n : Int} (hz : z.length = 1) (h0 : 0 ≤ n) (h1 : n ≤ 100) : (repS z n).length ≤ 100 := by
  unfold repS
  split
  · decide
  · split
    · omega
    · show (Array.size _) ≤ 100
      rw [fold_size, show z.cps.size = 1 from hz]
      simp
      omega
def rRepS : R2 := fun x y H Q => ∃ z n, x = .str z ∧ y = .int n ∧ z.length = 1 ∧ 0 ≤ n ∧ n ≤ 100 ∧ Q (.str (repS z n)) H
theorem op_repS {X : Cx} : OpR X (binaryOp .Mult) rRepS := by
  intro pins s σ H x y v u Q I rx ry h
  obtain ⟨z, n, rfl, rfl, hz, h0, h1, q⟩ := h
  obtain ⟨t, rfl⟩ := rx
  obtain ⟨t2, rfl⟩ := ry
  have hl := repS_len hz h0 h1
  refine P.mul_str (by simp; omega) (fun hn _ => ?_) (fun hn _ => ?_) ?_
  · rw [hz]
    have : (1 : Int) ≤ (2 ^ 63 - 1) / n := by
      rw [Int.le_ediv_iff_mul_le (by omega)]
      omega
    omega
  · rw [hz]
    obtain ⟨k, rfl⟩ : ∃ k : Nat, n = (k : Int) := ⟨n.toNat, by omega⟩
    rw [Int.toNat_natCast, Nat.one_mul]
    unfold Builtin.Str.tooLong
    exact decide_eq_false (by rw [sizeLine_eq]; omega)
  · unfold repS at q hl
    by_cases c1 : n < 1
    · rw [if_pos c1] at q ⊢
      exact ⟨by decide, .str Str.empty, H, I.tok _, ⟨_, rfl⟩, q⟩
    · rw [if_neg c1] at q hl ⊢
      by_cases c2 : (n == 1 || z.length == 0) = true
      · rw [if_pos c2] at q ⊢
        exact ⟨.str z, H, I, ⟨_, rfl⟩, q⟩
      · rw [if_neg c2] at q hl ⊢
        exact ⟨big_le (Nat.le_trans hl (by decide)), .str _, H, I.tok _, ⟨_, rfl⟩, q⟩
def tFmtD (te : TE) : TE := fun σ H Q => te σ H fun x H1 => ∃ i : Int, x = .int i ∧ 0 ≤ i ∧ i ≤ 10 ∧ Q (.str (toString i)) H1
theorem fmtd {prog : Program} {w : World} {A : Around} {E : Value → Shared → Prop} {s : Shared} {t : Tok} {i : Int} {Q : Value → Shared → Prop} (h0 : 0 ≤ i) (h1 : i ≤ 10) (h : ∀ t' k, Q (.str (toString i) t') { s with toks := k }) :
    wpAny (model prog w) A (formatField (.int i t) (Str.ofString "d")) Q E s := by
  refine PySem.W.KXf.field_int (spec' := Str.ofString "d") rfl (by decide +kernel) (by decide +kernel) ?_ h
  obtain ⟨k, rfl⟩ : ∃ k : Nat, i = (k : Int) := ⟨i.toNat, by omega⟩
  match k, h1 with
  | 0, _ => kxf_run_i
  | 1, _ => kxf_run_i
  | 2, _ => kxf_run_i
  | 3, _ => kxf_run_i
  | 4, _ => kxf_run_i
  | 5, _ => kxf_run_i
  | 6, _ => kxf_run_i
  | 7, _ => kxf_run_i
  | 8, _ => kxf_run_i
  | 9, _ => kxf_run_i
  | 10, _ => kxf_run_i
  | n + 11, h1 => exact absurd h1 (by omega)
def tJoin (ts : List TE) : TE := fun σ H Q => tJs ts Str.empty σ H fun out H1 => Q (.str out) H1
theorem pe_fmtD {X : Cx} {e : Expr} {te : TE} {pos p1 p2 : Pos} {z : Nat} (he : PE X e te) : PE X (.FormattedValue e (-1) (some (.JoinedStr [.Constant (.str (Str.ofString "d")) z p1] p2)) pos) (tFmtD te) := by
  refine ⟨fun pins s σ H Q I h => ?_⟩
  refine wpAny_FormattedValue_spec (thn (he.run pins s σ H _ I h) fun v s1 ⟨x, H1, I1, r1, i, ei, h0, h1, q⟩ => ?_)
  subst ei
  obtain ⟨t, rfl⟩ := r1
  refine wpAny_JoinedStr_one (thn (pe_str.run pins s1 σ H1 (fun y H2 => y = .str (Str.ofString "d") ∧ Q (.str (toString i)) H2) I1 ⟨rfl, q⟩) fun v2 s2 ⟨y, H2, I2, r2, ey, q2⟩ => ?_)
  subst ey
  obtain ⟨t2, rfl⟩ := r2
  exact ⟨_, _, rfl, fmtd h0 h1 fun t' k => ⟨.str (toString i), H2, I2.tok _, ⟨_, rfl⟩, q2⟩⟩
section
variable {K : PySem.W.Frag} {σ : L2.St} {H : Hp} {Q : VK} {QA : List V → Hp → Prop} {ta tf te : TE} {al : TA} {C : Addr} {sp : Sp}
/-! ### steps -/
/-- a new instance of C, its __init__ run -/
def Mkd (C : Addr) (sp : Sp) (vs : List V) (H : Hp) (Q : VK) : Prop := ∀ x dx, H x = none → H dx = none → dx ≠ x → sp (.ref x :: vs) (upd (upd H dx (.own x)) x (.ins C dx [])) (fun v H2 => v = .non ∧ Q (.ref x) H2) E0
theorem x_mk (h : al σ H fun vs H1 => Mkd C sp vs H1 Q) : tMake C sp [] E0 al σ H Q := by
  unfold tMake
  simp only [List.append_nil]
  exact h
def IsC (C : Addr) (x : V) (p : Prop) : Prop := x = .ref C ∧ p
theorem x_isC {p : Prop} (h : p) : IsC C (.ref C) p := ⟨rfl, h⟩
theorem x_mkV (h : tf σ H fun c H0 => IsC C c (al σ H0 fun vs H1 => Mkd C sp vs H1 Q)) : tMakeV C sp tf al σ H Q := h
theorem x_cmeth (h : ta σ H fun x H1 => IsC C x (al σ H1 fun vs H2 => sp (.ref C :: vs) H2 Q E0)) : ClX.tCMeth C sp E0 ta al σ H Q := h
/-- an instance of C is asked -/
def Ofc (C : Addr) (x : V) (H : Hp) (k : Addr → Prop) : Prop := ∃ a dx fs, x = .ref a ∧ H a = some (.ins C dx fs) ∧ k a
theorem x_Ofc {a dx : Addr} {fs : List (Str × V)} {k : Addr → Prop} (h : H a = some (.ins C dx fs)) (q : k a) : Ofc C (.ref a) H k := ⟨a, dx, fs, rfl, h, q⟩
theorem x_prop (h : ta σ H fun x H1 => Ofc C x H1 fun a => sp [.ref a] H1 Q E0) : tProp C sp [] E0 ta σ H Q := h
def Fld (K : PySem.W.Frag) (f : Str) (x : V) (H : Hp) (Q : VK) : Prop := ∃ a C dx fs v, x = .ref a ∧ H a = some (.ins C dx fs) ∧ Cls K C ∧ NoAttr K C f ∧ fs.lookup f = some v ∧ Q v H
theorem x_fld {f : Str} (h : ta σ H fun x H1 => Fld K f x H1 Q) : tFld K ta f σ H Q := h
theorem x_Fld {f : Str} {a dx : Addr} {fs : List (Str × V)} {v : V} (h : H a = some (.ins C dx fs)) (c : Cls K C) (n : NoAttr K C f) (l : fs.lookup f = some v) (q : Q v H) : Fld K f (.ref a) H Q := ⟨a, C, dx, fs, v, rfl, h, c, n, l, q⟩
def SFld (K : PySem.W.Frag) (f : Str) (x y : V) (H : Hp) (k : Hp → Prop) : Prop := ∃ a C dx fs, x = .ref a ∧ H a = some (.ins C dx fs) ∧ Cls K C ∧ NoAttr K C f ∧ fs.length < 1000 ∧ k (upd H a (.ins C dx (putF f y fs)))
theorem x_sfld {f : Str} {nx : L2.St → Hp → Prop} {rt : VK} {bk ct : L2.St → Hp → Prop} (h : te σ H fun y H1 => ta σ H1 fun x H2 => SFld K f x y H2 fun H3 => nx σ H3) : sFld K ta te f ⟨nx, rt, bk, ct⟩ σ H := h
theorem x_SFld {f : Str} {a dx : Addr} {fs : List (Str × V)} {y : V} {k : Hp → Prop} (h : H a = some (.ins C dx fs)) (c : Cls K C) (n : NoAttr K C f) (l : fs.length < 1000) (q : k (upd H a (.ins C dx (putF f y fs)))) : SFld K f (.ref a) y H k := ⟨a, C, dx, fs, rfl, h, c, n, l, q⟩
theorem x_own2 {a b dx dy : Addr} {fs gs : List (Str × V)} {g : Bool → Bool} (ha : H a = some (.ins C dx fs)) (hb : H b = some (.ins C dy gs)) (q : sp [.ref a, .ref b] H (fun v H' => ∃ r, v = .bl r ∧ Q (.bl (g r)) H') E0) : rOwn2 C sp g (.ref a) (.ref b) H Q := ⟨a, b, dx, dy, fs, gs, rfl, rfl, ha, hb, q⟩
theorem x_strO {a dx : Addr} {fs : List (Str × V)} (ha : H a = some (.ins C dx fs)) (q : sp [.ref a] H (fun v H' => ∃ z, v = .str z ∧ Q v H') E0) : rStrOwn C sp [.ref a] H Q := ⟨a, dx, fs, rfl, ha, q⟩
theorem x_repS {z : Str} {n : Int} (hz : z.length = 1) (h0 : 0 ≤ n ∧ n ≤ 100) (q : Q (.str (repS z n)) H) : rRepS (.str z) (.int n) H Q := ⟨z, n, rfl, rfl, hz, h0.1, h0.2, q⟩
def FmtD (x : V) (H : Hp) (Q : VK) : Prop := ∃ i : Int, x = .int i ∧ 0 ≤ i ∧ i ≤ 10 ∧ Q (.str (toString i)) H
theorem x_FmtD {i : Int} (h : 0 ≤ i ∧ i ≤ 10) (q : Q (.str (toString i)) H) : FmtD (.int i) H Q := ⟨i, rfl, h.1, h.2, q⟩
theorem x_fmtD (h : ta σ H fun x H1 => FmtD x H1 Q) : tFmtD ta σ H Q := h
end

/-! ### two ways meet -/
theorem s_joinB {c : Bool} {t u : TS} {σ1 : L2.St} {H1 : Hp} {nx : L2.St → Hp → Prop} {rt : VK} {bk ct : L2.St → Hp → Prop} (J : L2.St → Hp → Prop) (k : ∀ σ' H', J σ' H' → nx σ' H') (h1 : c = true → ∀ nx' : L2.St → Hp → Prop, (∀ σ' H', J σ' H' → nx' σ' H') → t ⟨nx', rt, bk, ct⟩ σ1 H1)
    (h2 : c = false → ∀ nx' : L2.St → Hp → Prop, (∀ σ' H', J σ' H' → nx' σ' H') → u ⟨nx', rt, bk, ct⟩ σ1 H1) : if c = true then t ⟨nx, rt, bk, ct⟩ σ1 H1 else u ⟨nx, rt, bk, ct⟩ σ1 H1 := b_2 (fun h => h1 h nx k) (fun h => h2 h nx k)
/-! ### is None, in, slices of tuples -/
section
variable {K : PySem.W.Frag} {H : Hp} {Q : VK}
def RevL (K : PySem.W.Frag) (x : V) (H : Hp) (Q : VK) : Prop := ∃ a xs, x = .ref a ∧ SqL K H a xs ∧ ∀ p, H p = none → Q (.ref p) (upd H p (.lst xs.reverse))
theorem x_revL {te : TE} {σ : L2.St} (h : te σ H fun x H1 => RevL K x H1 Q) : tRevL K te σ H Q := h
theorem x_RevL {a : Addr} {xs : List V} (h : SqL K H a xs) (q : ∀ p H1, H p = none → Ex H H1 → H1 p = some (.lst xs.reverse) → Q (.ref p) H1) : RevL K (.ref a) H Q := ⟨a, xs, rfl, h, fun p hp => q p _ hp (Ex.new hp) upd_same⟩
theorem x_isNr {a : Addr} (q : Q (.bl false) H) : rIsN (.ref a) .non H Q := ⟨rfl, q⟩
theorem x_isNn (q : Q (.bl true) H) : rIsN .non .non H Q := ⟨rfl, q⟩
theorem x_notNr {a : Addr} (q : Q (.bl true) H) : rNotN (.ref a) .non H Q := ⟨rfl, q⟩
theorem x_notNn (q : Q (.bl false) H) : rNotN .non .non H Q := ⟨rfl, q⟩
theorem flat_ints : ∀ ns : List Int, (ns.map V.int).all flatV = true
  | [] => rfl
  | n :: r => by
    rw [List.map_cons, List.all_cons, flat_ints r]
    rfl
theorem inV_ints (i : Int) : ∀ ns : List Int, inV (.int i) (ns.map V.int) = decide (i ∈ ns)
  | [] => by simp [inV]
  | n :: r => by
    have h := inV_ints i r
    unfold inV at h ⊢
    rw [List.map_cons, List.any_cons, h]
    have e : eqV (.int n) (.int i) = (n == i) := rfl
    rw [e, Bool.eq_iff_iff, Bool.or_eq_true, beq_iff_eq, decide_eq_true_eq, decide_eq_true_eq, List.mem_cons]
    exact ⟨fun z => z.elim (fun z => .inl z.symm) .inr, fun z => z.elim (fun z => .inl z.symm) .inr⟩
theorem x_inL {p : Addr} {i : Int} {ns : List Int} (h : SqL K H p (ns.map V.int)) (q : Q (.bl (decide (i ∈ ns))) H) : rIn K false (.int i) (.ref p) H Q :=
  ⟨p, _, rfl, .inl h, rfl, flat_ints ns, by
    rw [if_neg Bool.false_ne_true, inV_ints]
    exact q⟩
theorem x_slA {a : Addr} {xs : List V} {lo hi : Option Int} (hs : SqT K H a xs) (q : ∀ p H1, Ex H H1 → SqT K H1 p (cutV xs lo hi) → Q (.ref p) H1) : rSlA K (.ref a) lo hi H Q :=
  ⟨a, xs, rfl, hs, fun h => q a H (Ex.refl _) (by
    have e : cutV xs lo hi = xs := by
      unfold cutV
      rw [h.1, h.2, List.drop_zero, Nat.sub_zero, List.take_length]
    rw [e]
    exact hs), fun _ p hp => q p _ (Ex.new hp) (SqT.of upd_same)⟩
theorem x_catA {a b : Addr} {xs ys : List V} (h1 : SqT K H a xs) (h2 : SqT K H b ys) (hz : xs.length + ys.length ≤ 100000) (q : ∀ p H1, Ex H H1 → SqT K H1 p (xs ++ ys) → Q (.ref p) H1) : rCatA K (.ref a) (.ref b) H Q :=
  ⟨a, b, xs, ys, rfl, rfl, h1, h2, big_le hz, fun e => q b H (Ex.refl _) (by rw [e, List.nil_append]; exact h2), fun _ e => q a H (Ex.refl _) (by rw [e, List.append_nil]; exact h1), fun _ _ p hp => q p _ (Ex.new hp) (SqT.of upd_same)⟩
theorem x_catT {a b : Addr} {xs ys : List V} (h1 : SqT K H a xs) (h2 : SqT K H b ys) (hx : xs ≠ []) (hz : xs.length + ys.length ≤ 100000) (q : ∀ p H1, Ex H H1 → SqT K H1 p (xs ++ ys) → Q (.ref p) H1) : rCatA K (.ref a) (.ref b) H Q := x_catA h1 h2 hz q
end

/-! ### sum of a tuple of ints -/
theorem sum_tup {prog : Program} {w : World} {A : Around} {E : Value → Shared → Prop} {s : Shared} {l : Addr} {its : List Value} {ns : List Int} {Q : Value → Shared → Prop} (hh : A.handled = none) (hl : s.heap.IsTuple l its.toArray) (hi : IntsAre its ns)
    (h : ∀ h' tk t', (∀ b o, s.heap.get? b = some o → h'.get? b = some o) → Q (.int ns.sum t') { s with heap := h', toks := tk }) : wpAny (model prog w) A (call (.builtin "sum") [.ref l]) Q E s := by
  obtain ⟨xs, e⟩ := hi.allInts.items
  have hn : numsOf (intItems xs).toList = ns := by rw [← e]; exact hi.numsOf
  rw [nums_intItems] at hn
  rw [e] at hl
  have hlt : l < s.heap.objs.size := by obtain ⟨_, e, _⟩ := hl; exact Heap.lt_size e
  refine call_sum_walkG (wpAny_pyIter_tuple hl ⟨_, _, _, _, _, _, numAt xs, rfl, Walks.tuple (A := A.in1) hh _ l (Nat.ne_of_lt hlt) (intItems xs), ⟨⟨_, Heap.get?_push_size _ rfl, rfl, rfl⟩, hl.push _⟩, fun b hb => ?_, (fun _ _ => intItems_at), fun h' tk t' hk => ?_⟩)
  · show b < (s.heap.push _).objs.size
    rw [Heap.size_push]
    rcases List.mem_cons.mp hb with rfl | hb
    · exact Nat.lt_succ_self _
    · rcases List.mem_cons.mp hb with rfl | hb
      · exact Nat.lt_succ_of_lt hlt
      · cases hb
  · have := h h' tk t' fun b o eb => hk b o (fun hb => absurd (Heap.lt_size eb) ((List.mem_singleton.mp hb) ▸ Nat.lt_irrefl _)) (Heap.get?_push_of_some _ eb)
    have e2 : preSum (numAt xs) (intItems xs).size = ns.sum := by
      rw [show (intItems xs).size = xs.size by simp [intItems], preSum_eq, List.take_of_length_le (by simp), hn]
    rw [e2]
    exact this
def rSumT (K : PySem.W.Frag) : List V → Hp → VK → Prop := fun vs H Q => ∃ (a : Addr) (ns : List Int), vs = [V.ref a] ∧ SqT K H a (ns.map V.int) ∧ Q (.int ns.sum) H
theorem cr_sumT {X : Cx} (hc : X.calm = true) : CallR X (.builtin "sum") (rSumT X.K) := by
  intro pins s σ H vs us Q I r h
  obtain ⟨a, ns, rfl, hs, q⟩ := h
  obtain ⟨its, rv, hl, _⟩ := I.tuple hs
  rw [Vals.ref1 r]
  exact sum_tup (I.ok.hd hc) hl rv.ints fun h' tk t' hk => ⟨.int _, H, I.kept hk, ⟨_, rfl⟩, q⟩
theorem x_sumT {K : PySem.W.Frag} {H : Hp} {Q : VK} {p : Addr} {ns : List Int} (h : SqT K H p (ns.map V.int)) (q : Q (.int ns.sum) H) : rSumT K [.ref p] H Q := ⟨p, ns, rfl, h, q⟩

/-! ### the head: what is told of a class -/
def propB (K : PySem.W.Frag) (C : Addr) (f : Str) : Bool := He.eqO (PySem.W.findIn K (.ref C) f) (some (some (.ref (He.ma K C f)))) && (He.eqO (PySem.W.specialIn K (.ref (He.ma K C f)) "__get__") (some (some (.builtin "property.__get__"))) &&
  (decide (PySem.W.takesIn K (.ref (He.ma K C f)) = some true) && (match PySem.W.recIn K (He.ma K C f) "property" with
    | some (.ref _ :: _) => true
    | _ => false)))
theorem propB_ok {K : PySem.W.Frag} {C : Addr} {f : Str} (h : propB K C f = true) : PropOf K C f (He.ma K C f) (He5.wf K C "property" f) := by
  obtain ⟨h1, h⟩ := He.ba h
  obtain ⟨h2, h⟩ := He.ba h
  obtain ⟨h3, h4⟩ := He.ba h
  refine ⟨He.eqO_ok h1, He.eqO_ok h2, of_decide_eq_true h3, ?_⟩
  unfold He5.wf
  split at h4
  · rename_i g r e
    exact ⟨r, by rw [e]⟩
  · cases h4
def insB (K : PySem.W.Frag) (C : Addr) : Bool := He.eqO (PySem.W.findIn K (.ref C) "__class__") (some (some (.builtin "object.__class__"))) && (He.eqO (PySem.W.specialIn K (.builtin "object.__class__") "__get__") (some (some (.builtin "getset_descriptor.__get__"))) &&
  (decide (PySem.W.takesIn K (.builtin "object.__class__") = some true) && (decide (PySem.W.mroIn K C (.type "object") = some true) && decide (PySem.W.kitOne K (.ref C) (.ref C) = some true))))
theorem insB_ok {K : PySem.W.Frag} {C : Addr} (h : insB K C = true) (c : Cls K C) : C8.InsC K C := by
  obtain ⟨h1, h⟩ := He.ba h
  obtain ⟨h2, h⟩ := He.ba h
  obtain ⟨h3, h⟩ := He.ba h
  obtain ⟨h4, h5⟩ := He.ba h
  exact ⟨c, He.eqO_ok h1, He.eqO_ok h2, of_decide_eq_true h3, of_decide_eq_true h4, of_decide_eq_true h5⟩
def neB (K : PySem.W.Frag) (C : Addr) : Bool := decide (PySem.W.mroIn K C (.type "object") = some true) && He.eqO (PySem.W.findIn K (.ref C) "__ne__") (some (some (.builtin "object.__ne__")))
theorem neB_ok {K : PySem.W.Frag} {C : Addr} (h : neB K C = true) : NeOk K C := ⟨of_decide_eq_true (He.ba h).1, He.eqO_ok (He.ba h).2⟩
def cmB (K : PySem.W.Frag) (C : Addr) (m : Str) : Bool := He5.wrapB K C "classmethod" "classmethod.__get__" m && (PySem.W.readsIn K C (.type "type") && PySem.W.fnIn K (He5.wf K C "classmethod" m))
theorem cmB_ok {K : PySem.W.Frag} {C : Addr} {m : Str} (h : cmB K C m = true) : ClX.CRead K C (.type "type") ∧ ClX.CMet K C (.type "type") m (He.ma K C m) (He5.wf K C "classmethod" m) := by
  obtain ⟨h1, h⟩ := He.ba h
  obtain ⟨h2, h3⟩ := He.ba h
  refine ⟨⟨h2, ?_⟩, He5.cmet_of h1 h3⟩
  have h := h2
  unfold PySem.W.readsIn at h
  obtain ⟨h, _⟩ := He.ba h
  obtain ⟨h, _⟩ := He.ba h
  obtain ⟨h, h3⟩ := He.ba h
  obtain ⟨_, h2⟩ := He.ba h
  unfold PySem.W.specialIn
  rw [beq_iff_eq.mp h2, Option.bind_some]
  exact beq_iff_eq.mp h3

/-- the hook: facts, defs at any address, one more Bool -/
abbrev AlB : Type := He.AlD × Bool
def obsB (fa : List He.Fa) (fn : List He5.DefA) (ex : PySem.W.Frag → Bool) (K : PySem.W.Frag) : AlB := (He5.obsA fa fn K, ex K)
def SaysB (fa : List He.Fa) (fn : List He5.DefA) (ex : PySem.W.Frag → Bool) (K : PySem.W.Frag) : Prop := obsB fa fn ex K = (He5.valA fn, true)
def obsBG (n : Nat) (fa : List He.Fa) (fn : List He5.DefA) (ex : PySem.W.Frag → Bool) (g : Addr → Option Obj) : AlB := obsB fa fn ex (He.frG g (He5.asA g n))
def hookB (n : Nat) (fa : List He.Fa) (fn : List He5.DefA) (ex : PySem.W.Frag → Bool) : PySem.W.Hook where
  α := AlB
  obs := fun s => obsBG n fa fn ex s.heap.get?
  val := fun _ => (He5.valA fn, true)
  says := fun _ h => ∃ K : PySem.W.Frag, K.In h ∧ SaysB fa fn ex K
  of := fun _ _ e => ⟨_, He.frG_in, e⟩
  keeps := fun _ _ _ ⟨K, hK, c⟩ k => ⟨K, PySem.W.Frag.In.keeps hK k, c⟩
theorem obsBG_eq {n : Nat} {fa : List He.Fa} {fn : List He5.DefA} {ex : PySem.W.Frag → Bool} {g : Addr → Option Obj} {s : Shared} (h : ∀ a, g a = s.heap.get? a) : obsBG n fa fn ex g = (hookB n fa fn ex).obs s := by
  have e : g = s.heap.get? := funext h
  rw [e] <;> rfl
theorem SaysB.a {fa : List He.Fa} {fn : List He5.DefA} {ex : PySem.W.Frag → Bool} {K : PySem.W.Frag} (c : SaysB fa fn ex K) : He5.SaysA fa fn K := congrArg (fun z : AlB => z.1) c
theorem SaysB.x {fa : List He.Fa} {fn : List He5.DefA} {ex : PySem.W.Frag → Bool} {K : PySem.W.Frag} (c : SaysB fa fn ex K) : ex K = true := congrArg (fun z : AlB => z.2) c
end Xl

namespace Xl
open PySem PySem.Spec PyProof.Rows L2
local macro_rules | `(tactic| walk_at "x1") => `(tactic| first
  | ((with_reducible show tVar _ _ _ _); refine x_var rfl ?_)
  | (with_reducible refine x_c ?_)
  | (with_reducible refine x_II ?_)
  | ((with_reducible refine x_sd ?_ ?_); (first | (· first | exact trivial | decide | omega | exact .inl ⟨by omega, by omega⟩ | exact .inr ⟨by omega, by omega⟩ | exact ⟨by omega, by omega⟩ | exact ⟨by decide, by decide, by decide⟩) | rotate_left))
  | (with_reducible refine x_asB ?_)
  | (with_reducible refine x_seq ?_)
  | (with_reducible refine x_asgN ?_)
  | (with_reducible refine x_gN ?_)
  | (with_reducible refine x_asg ?_)
  | (with_reducible refine x_drop ?_)
  | (with_reducible refine x_ret ?_)
  | (with_reducible refine x_retN ?_)
  | (with_reducible refine x_next ?_)
  | (with_reducible refine x_if ?_)
  | (with_reducible refine x_brk ?_)
  | (with_reducible refine x_cont ?_)
  | (with_reducible refine x_opI0 ?_)
  | (with_reducible refine x_opI ?_)
  | (with_reducible refine x_opEq ?_)
  | (with_reducible refine x_opNe ?_)
  | (with_reducible refine x_op ?_)
  | (with_reducible refine x_chain ?_)
  | (with_reducible refine x_unI ?_)
  | (with_reducible refine x_gsub ?_)
  | (with_reducible refine x_callN ?_)
  | ((with_reducible show Cn _ _ _ _ _); refine x_Cn rfl rfl ?_)
  | (with_reducible refine x_dget ?_)
  | (with_reducible refine x_din ?_)
  | (with_reducible refine x_dni ?_)
  | (with_reducible refine x_dput ?_)
  | (with_reducible refine x_lc2L ?_)
  | (with_reducible refine x_sl ?_)
  | (with_reducible refine x_noPart ?_)
  | (with_reducible refine x_part ?_)
  | (with_reducible refine x_asO ?_)
  | (with_reducible refine x_rI0 ?_)
  | (with_reducible refine x_rI ?_)
  | (with_reducible refine x_eqI ?_)
  | (with_reducible refine x_neI ?_)
  | (with_reducible refine x_eqS ?_)
  | (with_reducible refine x_neS ?_)
  | (with_reducible refine x_eqB ?_)
  | (with_reducible refine x_neB ?_)
  | (with_reducible refine x_tst ?_)
  | (with_reducible refine x_tB ?_)
  | (with_reducible refine x_and ?_)
  | (with_reducible refine x_or ?_)
  | (with_reducible refine x_not ?_)
  | (with_reducible refine x_andV ?_)
  | (with_reducible refine x_orV ?_)
  | (with_reducible refine x_notV ?_)
  | (with_reducible refine x_ifE ?_)
  | (with_reducible refine x_nilA ?_)
  | (with_reducible refine x_consA ?_)
  | (with_reducible refine x_tup ?_)
  | (with_reducible refine x_lst ?_)
  | (with_reducible refine x_call ?_)
  | (with_reducible refine x_callD ?_)
  | (with_reducible refine x_cb ?_)
  | (with_reducible refine x_min2 ?_)
  | (with_reducible refine x_max2 ?_)
  | (with_reducible refine x_par ?_)
  | (with_reducible refine x_Par ?_)
  | (with_reducible refine x_par3 ?_)
  | (with_reducible refine x_Par3 ?_)
  | ((with_reducible show tAug _ _ _ _ _ _); refine x_aug rfl ?_)
  | (with_reducible refine x_ipI ?_)
  | (with_reducible refine x_forR1 ?_)
  | (with_reducible refine x_forR2 ?_)
  | (with_reducible refine x_forL ?_)
  | (with_reducible refine x_forT ?_)
  | (with_reducible refine x_lcL ?_)
  | (with_reducible refine x_lcT ?_)
  | (with_reducible refine x_lcR1 ?_)
  | (with_reducible refine x_lcR2 ?_)
  | ((with_reducible refine x_R1 ?_ ?_); (first | (· first | decide | omega) | rotate_left))
  | ((with_reducible refine x_R2 ?_ ?_); (first | (· first | decide | omega) | rotate_left))
  | (with_reducible refine x_yes ?_)
  | (with_reducible refine b_t rfl ?_)
  | (with_reducible refine b_f rfl ?_))
local macro_rules | `(tactic| walk_at "x") => `(tactic| repeat walk_at "x1")
local macro_rules | `(tactic| walk_at "bf") => `(tactic| refine b_f (by first | exact decide_eq_false (by omega) | (simp; done) | (simp; omega)) ?_)
local macro_rules | `(tactic| walk_at "bt") => `(tactic| refine b_t (by first | exact decide_eq_true (by omega) | (simp; done) | (simp; omega)) ?_)

/-! ### the notes -/
def pw2 (n : Nat) : Nat := 2 ^ n
/-- the length of the note with power p and c dots -/
def lenN (p c : Nat) : Nat := 2 ^ (p + 1) - 2 ^ (p - c)
/-- all notes within bounds, by power and dots -/
def notesL (d l : Nat) : List (Nat × Nat) := (List.range (l + 1)).flatMap fun p => (List.range (min d p + 1)).map fun c => (p, c)
def szs (d l : Nat) : List Nat := (notesL d l).map fun q => lenN q.1 q.2
theorem notesL_mem {d l p c : Nat} : (p, c) ∈ notesL d l ↔ p ≤ l ∧ c ≤ d ∧ c ≤ p := by
  unfold notesL
  simp only [List.mem_flatMap, List.mem_range, List.mem_map, Prod.mk.injEq]
  constructor
  · rintro ⟨p', h1, c', h2, rfl, rfl⟩
    omega
  · rintro ⟨h1, h2, h3⟩
    exact ⟨p, by omega, c, by omega, rfl, rfl⟩
theorem lenN_pos {p c : Nat} (h : c ≤ p) : 0 < lenN p c := by
  unfold lenN
  have h1 : 2 ^ (p - c) < 2 ^ (p + 1) := Nat.pow_lt_pow_right (by decide) (by omega)
  omega
theorem szs_pos {d l s : Nat} (h : s ∈ szs d l) : 0 < s := by
  unfold szs at h
  obtain ⟨⟨p, c⟩, h1, rfl⟩ := List.mem_map.mp h
  exact lenN_pos (notesL_mem.mp h1).2.2
theorem szs_one (d l : Nat) : 1 ∈ szs d l := List.mem_map.mpr ⟨(0, 0), notesL_mem.mpr ⟨by omega, by omega, by omega⟩, rfl⟩
theorem len_flatMap_le {α β : Type} {f : α → List β} {n : Nat} : ∀ {l : List α}, (∀ a ∈ l, (f a).length ≤ n) → (l.flatMap f).length ≤ l.length * n
  | [], _ => by simp
  | a :: r, h => by
    have h1 := len_flatMap_le (l := r) fun b hb => h b (List.mem_cons_of_mem _ hb)
    have h2 := h a List.mem_cons_self
    rw [List.flatMap_cons, List.length_append, List.length_cons, Nat.add_mul]
    omega
theorem notesL_len {d l : Nat} (hl : l ≤ 10) : (notesL d l).length ≤ 121 := by
  have h1 : (notesL d l).length ≤ (List.range (l + 1)).length * 11 := len_flatMap_le fun p hp => by
    rw [List.length_map, List.length_range]
    have := List.mem_range.mp hp
    omega
  rw [List.length_range] at h1
  omega

/-! ### the powers -/
def powers12 : List Int := [1, 2, 4, 8, 16, 32, 64, 128, 256, 512, 1024, 2048]
theorem pow_at {j : Nat} (h : j ≤ 11) : atI (powers12.map V.int) (j : Int) = some (.int ((2 ^ j : Nat) : Int)) := by
  refine atI_n (by omega) ?_
  rw [Int.toNat_natCast]
  match j, h with
  | 0, _ => rfl
  | 1, _ => rfl
  | 2, _ => rfl
  | 3, _ => rfl
  | 4, _ => rfl
  | 5, _ => rfl
  | 6, _ => rfl
  | 7, _ => rfl
  | 8, _ => rfl
  | 9, _ => rfl
  | 10, _ => rfl
  | 11, _ => rfl
/-- what is known of the table of the powers -/
def PowT (K : PySem.W.Frag) : Prop := ∀ H : Hp, SqT K H (He.ga K "POWERS") (powers12.map V.int)
def sp_length_of (K : PySem.W.Frag) : Sp := fun vs H Q _ => ∃ p c : Nat, vs = [.int p, .int c] ∧ c ≤ p ∧ p ≤ 10 ∧ Q (.int (lenN p c)) H
theorem len_length_of {K : PySem.W.Frag} : ∀ vs H Q E, sp_length_of K vs H Q E → vs.length = 2 := by
  rintro _ H Q E ⟨a, ns, rfl, _⟩
  rfl
/-- length_of: power dots -/
def t_length_of (K : PySem.W.Frag) : TS := (tRet (tOp rMinus (tOp (rIxT K) (tC (.ref (He.ga K "POWERS"))) (tOp rPlus (tVar 0) (tC (.int 1)))) (tOp (rIxT K) (tC (.ref (He.ga K "POWERS"))) (tOp rMinus (tVar 0) (tVar 1)))))

theorem run_length_of {K : PySem.W.Frag} (hP : PowT K) {vs : List V} {H : Hp} {Q : VK} {E : XK} (h : sp_length_of K vs H Q E) : t_length_of K { nx := fun _ H' => Q .non H', rt := Q } (start ["power", "dots"] vs) H := by
  obtain ⟨p, c, rfl, hc, hp, q⟩ := h
  unfold t_length_of
  walk_at "x"
  refine x_ixT (hP H) (i := (p : Int) + 1) (pow_at (j := p + 1) (by omega)) ?_
  walk_at "x"
  have e : (p : Int) - (c : Int) = ((p - c : Nat) : Int) := by omega
  rw [e]
  refine x_ixT (hP H) (pow_at (j := p - c) (by omega)) ?_
  walk_at "x"
  have h1 : 2 ^ (p - c) < 2 ^ (p + 1) := Nat.pow_lt_pow_right (by decide) (by omega)
  have e2 : ((2 ^ (p + 1) : Nat) : Int) - ((2 ^ (p - c) : Nat) : Int) = ((lenN p c : Nat) : Int) := by
    unfold lenN
    omega
  rw [e2]
  exact q

/-! ### all_notes -/
def dPair (q : Nat × Nat) : D := .tup [.int q.1, .int q.2]
def sp_all_notes (K : PySem.W.Frag) : Sp := fun vs H Q _ => ∃ d l : Nat, vs = [.int d, .int l] ∧ d ≤ 10 ∧ l ≤ 10 ∧
  ∀ p H' ys, Ex H H' → H p = none → H' p = some (.lst ys) → RpL K H' ys ((notesL d l).map dPair) → Q (.ref p) H'
theorem len_all_notes {K : PySem.W.Frag} : ∀ vs H Q E, sp_all_notes K vs H Q E → vs.length = 2 := by
  rintro _ H Q E ⟨a, ns, rfl, _⟩
  rfl
/-- all_notes: dots longest found power count -/
def t_all_notes (K : PySem.W.Frag) : TS := (tSeq (tAsg (tLst tNil) (gName 2)) (tSeq (tFor (iRng1 (tCons (tOp rPlus (tVar 1) (tC (.int 1))) tNil)) (gName 3) (tFor (iRng1 (tCons (tOp rPlus (tCB rMin2 (tCons (tVar 0) (tCons (tVar 3) tNil))) (tC (.int 1))) tNil)) (gName 4) (tDrop (tBM K "list" rAppend (tVar 2) (tCons (tTup (tCons (tVar 3) (tCons (tVar 4) tNil))) tNil))))) (tRet (tVar 2))))

/-- the notes of the first powers, and of the next one the first dots -/
def notesP (d p c : Nat) : List (Nat × Nat) := ((List.range p).flatMap fun p => (List.range (min d p + 1)).map fun c => (p, c)) ++ (List.range c).map fun c => (p, c)
theorem notesP_next (d p : Nat) : notesP d p (min d p + 1) = notesP d (p + 1) 0 := by
  unfold notesP
  rw [List.range_succ (n := p), List.flatMap_append]
  simp
theorem notesP_step (d p c : Nat) : notesP d p (c + 1) = notesP d p c ++ [(p, c)] := by
  unfold notesP
  rw [List.range_succ, List.map_append, List.append_assoc] <;> rfl
theorem notesP_end (d l : Nat) : notesP d (l + 1) 0 = notesL d l := by
  unfold notesP notesL
  simp
theorem notesP_len {d p c : Nat} (hp : p ≤ 11) (hc : c ≤ p + 1) : (notesP d p c).length ≤ 1000 := by
  unfold notesP
  rw [List.length_append, List.length_map, List.length_range]
  have h1 : ((List.range p).flatMap fun p => (List.range (min d p + 1)).map fun c => (p, c)).length ≤ (List.range p).length * 12 := len_flatMap_le fun q hq => by
    rw [List.length_map, List.length_range]
    have := List.mem_range.mp hq
    omega
  rw [List.length_range] at h1
  omega
theorem run_all_notes {K : PySem.W.Frag} {vs : List V} {H : Hp} {Q : VK} {E : XK} (h : sp_all_notes K vs H Q E) : t_all_notes K { nx := fun _ H' => Q .non H', rt := Q } (start ["dots", "longest", "found", "power", "count"] vs) H := by
  obtain ⟨d, l, rfl, hd, hl, q⟩ := h
  unfold t_all_notes
  walk_at "x"
  refine x_newL rfl fun p H1 np e1 h1 _ => ?_
  walk_at "x"
  have en : ((l : Int) + 1).toNat = l + 1 := by omega
  rw [en]
  refine for_r (fun i σ H' => ∃ (ys : List V) (o1 o2 : Option V), σ = [some (.int d), some (.int l), some (.ref p), o1, o2] ∧ Ex H H' ∧ H' p = some (.lst ys) ∧ RpL K H' ys ((notesP d i 0).map dPair)) ?_ ?_ ?_
  · exact ⟨[], none, none, rfl, e1, h1, by unfold notesP; simpa using RpL.nil⟩
  · rintro i σ H' hi ⟨ys, o1, o2, rfl, eH, hp, hr⟩
    rw [Int.zero_add]
    walk_at "x"
    have em : ((if (i : Int) < (d : Int) then (i : Int) else (d : Int)) + 1).toNat = min d i + 1 := by
      split <;> omega
    rw [em]
    refine for_r (fun j σ H' => ∃ (ys : List V) (o2 : Option V), σ = [some (.int d), some (.int l), some (.ref p), some (.int i), o2] ∧ Ex H H' ∧ H' p = some (.lst ys) ∧ RpL K H' ys ((notesP d i j).map dPair)) ?_ ?_ ?_
    · exact ⟨ys, o2, rfl, eH, hp, hr⟩
    · rintro j σ H' hj ⟨ys, o2, rfl, eH, hp, hr⟩
      rw [Int.zero_add]
      walk_at "x"
      refine x_app rfl hp ?_
      walk_at "x"
      refine x_newT rfl fun t H2 nt e2 h2 _ => ?_
      have hp2 := e2 _ _ hp
      have hz := hr.len
      rw [List.length_map] at hz
      have hz2 := notesP_len (d := d) (p := i) (c := j) (by omega) (by omega)
      refine x_App hp2 (by omega) ?_
      refine ⟨ys ++ [.ref t], _, rfl, (eH.trans e2).mut np, upd_same, ?_⟩
      rw [notesP_step, List.map_append]
      refine ((hr.mono e2).im (Im.set hp2)).snoc (Rp.im (Im.set hp2) ?_)
      exact .tup (SqT.of h2) (.cons (.int _) (.cons (.int _) .nil))
    · rintro σ H' ⟨ys, o2, rfl, eH, hp, hr⟩
      rw [notesP_next] at hr
      exact ⟨ys, _, _, rfl, eH, hp, hr⟩
  · rintro σ H' ⟨ys, o1, o2, rfl, eH, hp, hr⟩
    walk_at "x"
    rw [notesP_end] at hr
    exact q p H' ys eH np hp hr

/-! ### the smallest number -/
def Wr (S : List Nat) (k n : Nat) : Prop := ∃ l : List Nat, l.length = k ∧ (∀ s ∈ l, s ∈ S) ∧ l.sum = n
def IsMin (S : List Nat) (n k : Nat) : Prop := Wr S k n ∧ ∀ j, Wr S j n → k ≤ j
theorem IsMin.uniq {S : List Nat} {n k j : Nat} (a : IsMin S n k) (b : IsMin S n j) : k = j := Nat.le_antisymm (a.2 _ b.1) (b.2 _ a.1)
theorem least {p : Nat → Prop} : ∀ n, p n → ∃ m, p m ∧ ∀ j, p j → m ≤ j := by
  intro n
  induction n using Nat.strongRecOn with
  | ind n ih =>
    intro h
    by_cases q : ∃ m, m < n ∧ p m
    · obtain ⟨m, h1, h2⟩ := q
      exact ih m h1 h2
    · exact ⟨n, h, fun j hj => Nat.le_of_not_lt fun hlt => q ⟨j, hlt, hj⟩⟩
theorem wr_ones {S : List Nat} (h : 1 ∈ S) (n : Nat) : Wr S n n := ⟨List.replicate n 1, by simp, fun s hs => by rw [List.eq_of_mem_replicate hs]; exact h, by simp⟩
theorem exMin {S : List Nat} (h : 1 ∈ S) (n : Nat) : ∃ k, IsMin S n k := least (p := fun k => Wr S k n) n (wr_ones h n)
/-- the smallest number of members of S with the sum n -/
noncomputable def mn (S : List Nat) (n : Nat) : Nat := Classical.epsilon fun k => IsMin S n k
theorem mn_is {S : List Nat} (h : 1 ∈ S) (n : Nat) : IsMin S n (mn S n) := Classical.epsilon_spec (exMin h n)
theorem mn_eq {S : List Nat} (h : 1 ∈ S) {n k : Nat} (q : IsMin S n k) : mn S n = k := (mn_is h n).uniq q
theorem wr_nil {S : List Nat} : Wr S 0 0 := ⟨[], rfl, by simp, rfl⟩
theorem mn_zero {S : List Nat} (h : 1 ∈ S) : mn S 0 = 0 := mn_eq h ⟨wr_nil, fun _ _ => Nat.zero_le _⟩
theorem Wr.cons {S : List Nat} {k n s : Nat} (h : Wr S k n) (hs : s ∈ S) : Wr S (k + 1) (n + s) := by
  obtain ⟨l, h1, h2, h3⟩ := h
  refine ⟨s :: l, by simp [h1], fun t ht => ?_, by simp [h3]; omega⟩
  rcases List.mem_cons.mp ht with rfl | ht
  · exact hs
  · exact h2 t ht
theorem Wr.out {S : List Nat} {k n : Nat} (h : Wr S k n) (hn : 0 < n) : ∃ s j, s ∈ S ∧ s ≤ n ∧ k = j + 1 ∧ Wr S j (n - s) := by
  obtain ⟨l, h1, h2, h3⟩ := h
  cases l with
  | nil =>
    simp at h3
    omega
  | cons s r =>
    rw [List.sum_cons] at h3
    rw [List.length_cons] at h1
    exact ⟨s, r.length, h2 s List.mem_cons_self, by omega, by omega, r, rfl, fun t ht => h2 t (List.mem_cons_of_mem _ ht), by omega⟩
theorem mn_step {S : List Nat} (h : 1 ∈ S) {a m : Nat} (ha : 0 < a) (h1 : ∃ s ∈ S, s ≤ a ∧ m = mn S (a - s)) (h2 : ∀ s ∈ S, s ≤ a → m ≤ mn S (a - s)) : mn S a = m + 1 := by
  refine mn_eq h ⟨?_, fun j hj => ?_⟩
  · obtain ⟨s, hs, hle, rfl⟩ := h1
    have q := (mn_is h (a - s)).1.cons hs
    rwa [Nat.sub_add_cancel hle] at q
  · obtain ⟨s, i, hs, hle, rfl, q⟩ := hj.out ha
    have h3 := h2 s hs hle
    have h4 := (mn_is h (a - s)).2 i q
    omega
/-! ### fewest_table -/
noncomputable def tblI (S : List Nat) (n : Nat) : List Int := (List.range n).map fun i => ((mn S i : Nat) : Int)
theorem tblI_len (S : List Nat) (n : Nat) : (tblI S n).length = n := by unfold tblI; rw [List.length_map, List.length_range]
theorem tblI_at {S : List Nat} {n i : Nat} (h : i < n) : (tblI S n)[i]? = some ((mn S i : Nat) : Int) := by
  unfold tblI
  rw [List.getElem?_map, List.getElem?_range h] <;> rfl
theorem tblI_succ (S : List Nat) (n : Nat) : tblI S (n + 1) = tblI S n ++ [((mn S n : Nat) : Int)] := by
  unfold tblI
  rw [List.range_succ, List.map_append] <;> rfl
def sp_fewest_table (K : PySem.W.Frag) : Sp := fun vs H Q _ => ∃ n d l : Nat, vs = [.int n, .int d, .int l] ∧ n ≤ 2100 ∧ d ≤ 10 ∧ l ≤ 10 ∧
  ∀ p H', Ex H H' → H p = none → H' p = some (.lst ((tblI (szs d l) (n + 1)).map V.int)) → Q (.ref p) H'
theorem len_fewest_table {K : PySem.W.Frag} : ∀ vs H Q E, sp_fewest_table K vs H Q E → vs.length = 3 := by
  rintro _ H Q E ⟨a, ns, i, rfl, _⟩
  rfl
/-- fewest_table: length dots longest sizes table amount power count size -/
def t_fewest_table (K : PySem.W.Frag) : TS := (tSeq (tAsg (tLc (iList K (tCall (sp_all_notes K) [] E0 (tCons (tVar 1) (tCons (tVar 2) tNil)))) (gTup K 2 (gCons (gName 6) (gCons (gName 7) gNil))) tYes (tCall (sp_length_of K) [] E0 (tCons (tVar 6) (tCons (tVar 7) tNil))) [6, 7]) (gName 3)) (tSeq (tAsg (tLst (tCons (tC (.int 0)) tNil)) (gName 4)) (tSeq (tFor (iRng2 (tCons (tC (.int 1)) (tCons (tOp rPlus (tVar 0) (tC (.int 1))) tNil))) (gName 5) (tDrop (tBM K "list" rAppend (tVar 4) (tCons (tOp rPlus (tC (.int 1)) (tCB (rMin K) (tCons (tLc (iList K (tVar 3)) (gName 8) (tTest (tOp rLe (tVar 8) (tVar 5))) (tOp (rIxL K) (tVar 4) (tOp rMinus (tVar 5) (tVar 8))) [8]) tNil))) tNil)))) (tRet (tVar 4)))))

theorem szs_len {d l : Nat} (hl : l ≤ 10) : (szs d l).length ≤ 121 := by
  unfold szs
  rw [List.length_map]
  exact notesL_len hl
theorem fm_some {α β : Type} (f : α → β) : ∀ l : List α, l.filterMap (fun a => some (f a)) = l.map f
  | [] => rfl
  | a :: r => by rw [List.filterMap_cons, List.map_cons, fm_some f r]
theorem fm_map {α β γ : Type} (f : α → β) (g : β → Option γ) : ∀ l : List α, (l.map f).filterMap g = l.filterMap fun a => g (f a)
  | [] => rfl
  | a :: r => by rw [List.map_cons, List.filterMap_cons, List.filterMap_cons, fm_map f g r]
theorem fm_dI {α : Type} (g : α → Option Int) : ∀ l : List α, l.filterMap (fun a => (g a).map D.int) = dI (l.filterMap g)
  | [] => rfl
  | a :: r => by
    rw [List.filterMap_cons, List.filterMap_cons, fm_dI g r]
    cases h : g a with
    | none => rfl
    | some _ => rfl
def szsI (d l : Nat) : List Int := (szs d l).map fun s : Nat => (s : Int)
theorem sizes_eq (d l : Nat) : ((notesL d l).map dPair).filterMap (fun q => match q with | .tup [.int p, .int c] => some (D.int (lenN p.toNat c.toNat)) | _ => none) = dI (szsI d l) := by
  unfold szsI szs dI dPair
  rw [fm_map, List.map_map, List.map_map]
  exact fm_some (fun q : Nat × Nat => D.int ((lenN q.1 q.2 : Nat) : Int)) (notesL d l)
theorem run_fewest_table {K : PySem.W.Frag} {vs : List V} {H : Hp} {Q : VK} {E : XK} (h : sp_fewest_table K vs H Q E) : t_fewest_table K { nx := fun _ H' => Q .non H', rt := Q } (start ["length", "dots", "longest", "sizes", "table", "amount", "power", "count", "size"] vs) H := by
  obtain ⟨n, d, l, rfl, hn, hd, hl, q⟩ := h
  unfold t_fewest_table
  walk_at "x"
  refine ⟨d, l, rfl, hd, hl, fun pa H1 ya e1 na h1 r1 => ?_⟩
  refine x_RefL (SqL.of h1) (lcLD (fun q => match q with | .tup [.int p, .int c] => some (D.int (lenN p.toNat c.toNat)) | _ => none) (SqL.of h1) r1 (by rw [List.length_map]; have := notesL_len (d := d) hl; omega) (fun i dd x H' hi e r => ?_) fun ps ys H2 e2 n2 h2 r2 => ?_)
  · rw [List.getElem?_map] at hi
    cases h3 : (notesL d l)[i]? with
    | none =>
      rw [h3] at hi
      cases hi
    | some pc =>
      obtain ⟨p, c⟩ := pc
      rw [h3] at hi
      have e3 : dPair (p, c) = dd := Option.some.inj hi
      subst e3
      have hm := notesL_mem.mp (List.mem_of_getElem? h3)
      refine turn_all fun R k => ?_
      obtain ⟨t, vt, rfl, ht, rt⟩ := r.t
      cases rt with
      | cons ra rb =>
        cases rb with
        | cons rb rc =>
          cases rc
          cases ra
          cases rb
          refine ⟨t, _, rfl, ht, rfl, _, _, rfl, _, _, rfl, rfl, rfl, ?_⟩
          walk_at "x"
          refine ⟨p, c, rfl, hm.2.2, by omega, ?_⟩
          refine k _ _ (Ex.refl _) ?_
          show Rp K H' _ (.int ((lenN ((p : Nat) : Int).toNat ((c : Nat) : Int).toNat : Nat) : Int))
          rw [Int.toNat_natCast, Int.toNat_natCast]
          exact .int _
  · rw [sizes_eq] at r2
    rw [r2.ints_inv] at h2
    walk_at "x"
    refine x_newL rfl fun pt H3 n3 e3 h3 _ => ?_
    have e13 : Ex H H2 := e1.trans e2
    walk_at "x"
    have en : ((n : Int) + 1 - 1).toNat = n := by omega
    rw [en]
    refine for_r (fun i σ H' => ∃ (o1 : Option V), σ = [some (.int n), some (.int d), some (.int l), some (.ref ps), some (.ref pt), o1, none, none, none] ∧ Ex H2 H' ∧ H' pt = some (.lst ((tblI (szs d l) (i + 1)).map V.int))) ?_ ?_ ?_
    · refine ⟨none, rfl, e3, ?_⟩
      rw [h3, tblI_succ, mn_zero (szs_one d l)] <;> rfl
    · rintro i σ H' hi ⟨o1, rfl, eH, hT⟩
      have e0 : (1 : Int) + (i : Int) = ((i + 1 : Nat) : Int) := by omega
      rw [e0]
      walk_at "x"
      refine x_app rfl hT ?_
      walk_at "x"
      have hS : SqL K H' ps ((szsI d l).map V.int) := eH.l (SqL.of h2)
      refine x_RefL hS (lcLI (fun z => (if z ≤ ((i + 1 : Nat) : Int) then some ((mn (szs d l) (i + 1 - z.toNat) : Nat) : Int) else none).map D.int) hS (by unfold szsI; rw [List.length_map]; have := szs_len (d := d) hl; omega) (fun j z H4 hj e4 => ?_) fun pm ym H5 e5 n5 h5 r5 => ?_)
      · intro R RN k kn
        have hz : ∃ s, s ∈ szs d l ∧ (s : Int) = z := by
          unfold szsI at hj
          rw [List.getElem?_map] at hj
          cases h6 : (szs d l)[j]? with
          | none =>
            rw [h6] at hj
            cases hj
          | some s =>
            rw [h6] at hj
            exact ⟨s, List.mem_of_getElem? h6, Option.some.inj hj⟩
        obtain ⟨s, hs, rfl⟩ := hz
        have sp := szs_pos hs
        refine ⟨rfl, ?_⟩
        walk_at "x"
        refine b_d (fun hle => ?_) (fun hgt => ?_)
        · walk_at "x"
          have e6 : ((i + 1 : Nat) : Int) - (s : Int) = ((i + 1 - s : Nat) : Int) := by omega
          rw [e6]
          have hT4 : SqL K H4 pt ((tblI (szs d l) (i + 1)).map V.int) := SqL.of (e4 _ _ hT)
          refine x_ixL hT4 (atI_n (v := V.int ((mn (szs d l) (i + 1 - s) : Nat) : Int)) (by omega) ?_) ?_
          · rw [Int.toNat_natCast, List.getElem?_map, tblI_at (by omega)] <;> rfl
          · refine k _ _ _ (Ex.refl _) ?_ (.int _)
            rw [if_pos hle, Int.toNat_natCast] <;> rfl
        · refine kn _ (Ex.refl _) ?_
          rw [if_neg hgt] <;> rfl
      · rw [fm_dI] at r5
        have e7 := r5.ints_inv
        rw [e7] at h5
        walk_at "x"
        have h1S : (1 : Int) ∈ szsI d l := List.mem_map.mpr ⟨1, szs_one d l, rfl⟩
        have hmem : ∀ y, y ∈ (szsI d l).filterMap (fun z => if z ≤ ((i + 1 : Nat) : Int) then some ((mn (szs d l) (i + 1 - z.toNat) : Nat) : Int) else none) ↔ ∃ s ∈ szs d l, s ≤ i + 1 ∧ y = ((mn (szs d l) (i + 1 - s) : Nat) : Int) := by
          intro y
          rw [List.mem_filterMap]
          constructor
          · rintro ⟨z, hz, hy⟩
            obtain ⟨s, hs, rfl⟩ := List.mem_map.mp hz
            by_cases hle : ((s : Nat) : Int) ≤ ((i + 1 : Nat) : Int)
            · rw [if_pos hle] at hy
              rw [Int.toNat_natCast] at hy
              exact ⟨s, hs, by omega, (Option.some.inj hy).symm⟩
            · rw [if_neg hle] at hy
              cases hy
          · rintro ⟨s, hs, hle, rfl⟩
            refine ⟨s, List.mem_map.mpr ⟨s, hs, rfl⟩, ?_⟩
            rw [if_pos (by omega), Int.toNat_natCast]
        refine x_min (SqL.of h5) (List.length_pos_iff.mpr fun q => ?_) fun m hm hle => ?_
        · have := (hmem _).mpr ⟨1, szs_one d l, by omega, rfl⟩
          rw [q] at this
          cases this
        · walk_at "x"
          have e8 := e5 _ _ hT
          refine x_App e8 (by rw [List.length_map, tblI_len]; omega) ?_
          refine ⟨_, rfl, (eH.trans e5).mut n3, ?_⟩
          rw [upd_same, tblI_succ (n := i + 1)]
          obtain ⟨s, hs, hsl, rfl⟩ := (hmem m).mp hm
          have hstep := mn_step (szs_one d l) (a := i + 1) (m := mn (szs d l) (i + 1 - s)) (by omega) ⟨s, hs, hsl, rfl⟩ (fun s' hs' hle' => by
            have := hle _ ((hmem _).mpr ⟨s', hs', hle', rfl⟩)
            omega)
          rw [hstep, List.map_append]
          have e9 : (1 : Int) + ((mn (szs d l) (i + 1 - s) : Nat) : Int) = ((mn (szs d l) (i + 1 - s) + 1 : Nat) : Int) := by omega
          rw [e9] <;> rfl
    · rintro σ H' ⟨o1, rfl, eH, hT⟩
      walk_at "x"
      exact q pt H' (e13.trans eH) (e13.back n3) hT
/-! ### fewest_notes -/
abbrev c_fewest_notes_1_d : List V := [.int 10, .int 10]
def sp_fewest_notes (K : PySem.W.Frag) : Sp := fun vs H Q _ => ∃ n d l : Nat, vs = [.int n, .int d, .int l] ∧ n ≤ 2100 ∧ d ≤ 10 ∧ l ≤ 10 ∧ ∀ H', Ex H H' → Q (.int ((mn (szs d l) n : Nat) : Int)) H'
theorem len_fewest_notes {K : PySem.W.Frag} : ∀ vs H Q E, sp_fewest_notes K vs H Q E → vs.length = 3 := by
  rintro _ H Q E ⟨a, ns, i, rfl, _⟩
  rfl
/-- fewest_notes: length dots longest -/
def t_fewest_notes (K : PySem.W.Frag) : TS := (tRet (tOp (rIxL K) (tCall (sp_fewest_table K) [] E0 (tCons (tVar 0) (tCons (tVar 1) (tCons (tVar 2) tNil)))) (tVar 0)))

theorem run_fewest_notes {K : PySem.W.Frag} {vs : List V} {H : Hp} {Q : VK} {E : XK} (h : sp_fewest_notes K vs H Q E) : t_fewest_notes K { nx := fun _ H' => Q .non H', rt := Q } (start ["length", "dots", "longest"] vs) H := by
  obtain ⟨n, d, l, rfl, hn, hd, hl, q⟩ := h
  unfold t_fewest_notes
  walk_at "x"
  refine ⟨n, d, l, rfl, hn, hd, hl, fun p H1 e1 n1 h1 => ?_⟩
  walk_at "x"
  refine x_ixL (SqL.of h1) (atI_n (v := V.int ((mn (szs d l) n : Nat) : Int)) (by omega) ?_) (q H1 e1)
  rw [Int.toNat_natCast, List.getElem?_map, tblI_at (by omega)] <;> rfl
theorem x_fewestU {K : PySem.W.Frag} {x : Int} {H : Hp} {Q : VK} {E : XK} (n : Nat) (hx : x = (n : Int)) (hn : n ≤ 2100) (q : ∀ H', Ex H H' → Q (.int ((mn (szs 10 10) n : Nat) : Int)) H') : sp_fewest_notes K ([.int x] ++ c_fewest_notes_1_d) H Q E :=
  ⟨n, 10, 10, by rw [hx]; rfl, hn, by decide, by decide, q⟩
theorem sum_nat (l : List Nat) : (l.map fun n : Nat => (n : Int)).sum = ((l.sum : Nat) : Int) := by
  induction l with
  | nil => rfl
  | cons a r ih =>
    rw [List.map_cons, List.sum_cons, ih, List.sum_cons]
    omega
/-! ### lengths_with -/
/-- the lengths up to m that need k notes -/
noncomputable def lw (k : Int) (m : Nat) : List Int := (List.range m).filterMap fun i => if ((mn (szs 10 10) (i + 1) : Nat) : Int) = k then some ((i : Int) + 1) else none
def sp_lengths_with (K : PySem.W.Frag) : Sp := fun vs H Q _ => ∃ (k : Int) (m : Nat), vs = [.int k, .int m] ∧ m ≤ 2100 ∧ ∀ p H', Ex H H' → H p = none → H' p = some (.lst ((lw k m).map V.int)) → Q (.ref p) H'
theorem len_lengths_with {K : PySem.W.Frag} : ∀ vs H Q E, sp_lengths_with K vs H Q E → vs.length = 2 := by
  rintro _ H Q E ⟨a, ns, rfl, _⟩
  rfl
/-- lengths_with: number most table length -/
def t_lengths_with (K : PySem.W.Frag) : TS := (tSeq (tAsg (tCall (sp_fewest_table K) [] E0 (tCons (tVar 1) (tCons (tC (.int 10)) (tCons (tC (.int 10)) tNil)))) (gName 2)) (tRet (tLc (iRng2 (tCons (tC (.int 1)) (tCons (tOp rPlus (tVar 1) (tC (.int 1))) tNil))) (gName 3) (tTest (tOp rEq (tOp (rIxL K) (tVar 2) (tVar 3)) (tVar 0))) (tVar 3) [3])))

theorem run_lengths_with {K : PySem.W.Frag} {vs : List V} {H : Hp} {Q : VK} {E : XK} (h : sp_lengths_with K vs H Q E) : t_lengths_with K { nx := fun _ H' => Q .non H', rt := Q } (start ["number", "most", "table", "length"] vs) H := by
  obtain ⟨k, m, rfl, hm, q⟩ := h
  unfold t_lengths_with
  walk_at "x"
  refine ⟨m, 10, 10, rfl, hm, by decide, by decide, fun p H1 e1 n1 h1 => ?_⟩
  walk_at "x"
  have en : ((m : Int) + 1 - 1).toNat = m := by omega
  rw [en]
  refine lcR (K := K) (fun i => (if ((mn (szs 10 10) (i + 1) : Nat) : Int) = k then some ((i : Int) + 1) else none).map D.int) (by omega) (fun i H2 hi e2 R RN kR kN => ⟨rfl, ?_⟩) fun pl ys H2 e2 n2 h2 r2 => ?_
  · have e0 : (1 : Int) + (i : Int) = ((i + 1 : Nat) : Int) := by omega
    rw [e0]
    walk_at "x"
    refine x_ixL (SqL.of (e2 _ _ h1)) (atI_n (v := V.int ((mn (szs 10 10) (i + 1) : Nat) : Int)) (by omega) ?_) ?_
    · rw [Int.toNat_natCast, List.getElem?_map, tblI_at (by omega)] <;> rfl
    · walk_at "x"
      refine b_d (fun hc => ?_) (fun hc => ?_)
      · walk_at "x"
        refine kR _ _ _ (Ex.refl _) (by rw [if_pos hc]; rfl) ?_
        have e3 : (((i + 1 : Nat) : Int)) = (i : Int) + 1 := by omega
        rw [e3]
        exact .int _
      · exact kN _ (Ex.refl _) (by rw [if_neg hc]; rfl)
  · rw [fm_dI] at r2
    rw [r2.ints_inv] at h2
    exact q pl H2 (e1.trans e2) (e1.back n2) h2
end Xl

namespace Xl
open PySem PySem.Spec PyProof.Rows L2
/-! ### dots that cannot be seen: rows and totals, plain -/
def stepD (rows : List (List Nat)) (p : Nat) : List (List Nat) := rows.flatMap fun r => (List.range (p + 1)).map fun c => r ++ [c]
/-- all rows of dots, ascending -/
def allD (ps : List Nat) : List (List Nat) := ps.foldl stepD [[]]
theorem allD_snoc (ps : List Nat) (p : Nat) : allD (ps ++ [p]) = stepD (allD ps) p := by
  unfold allD
  rw [List.foldl_append] <;> rfl
theorem snoc_ind {α : Type} {P : List α → Prop} (h0 : P []) (h1 : ∀ l x, P l → P (l ++ [x])) : ∀ l, P l := fun l => by
  obtain ⟨n, hn⟩ : ∃ n, n = l.length := ⟨_, rfl⟩
  induction n generalizing l with
  | zero =>
    have : l = [] := List.eq_nil_of_length_eq_zero hn.symm
    subst this
    exact h0
  | succ n ih =>
    obtain ⟨r, x, rfl⟩ : ∃ r x, l = r ++ [x] := ⟨l.dropLast, l.getLast (by intro q; rw [q] at hn; cases hn), (List.dropLast_concat_getLast _).symm⟩
    exact h1 r x (ih r (by rw [List.length_append, List.length_singleton] at hn; omega))
theorem allD_ok : ∀ (ps : List Nat), ∀ r ∈ allD ps, r.length = ps.length ∧ ∀ i p c : Nat, ps[i]? = some p → r[i]? = some c → c ≤ p := by
  refine snoc_ind (fun r hr => ?_) fun ps p ih r hr => ?_
  · have : r = [] := List.mem_singleton.mp hr
    subst this
    exact ⟨rfl, by simp⟩
  · rw [allD_snoc] at hr
    obtain ⟨q, hq, hr⟩ := List.mem_flatMap.mp hr
    obtain ⟨c, hc, rfl⟩ := List.mem_map.mp hr
    obtain ⟨a, b⟩ := ih q hq
    refine ⟨by simp [a], fun i p' c' h1 h2 => ?_⟩
    by_cases hi : i < ps.length
    · rw [List.getElem?_append_left hi] at h1
      rw [List.getElem?_append_left (by omega)] at h2
      exact b i p' c' h1 h2
    · rw [List.getElem?_append_right (by omega)] at h1
      rw [List.getElem?_append_right (by omega), a] at h2
      cases e : i - ps.length with
      | zero =>
        rw [e] at h1 h2
        have e1 : p = p' := by simpa using h1
        have e2 : c = c' := by simpa using h2
        have := List.mem_range.mp hc
        omega
      | succ k =>
        rw [e] at h1
        simp at h1
theorem allD_len : ∀ ps : List Nat, (∀ p ∈ ps, p ≤ 6) → (allD ps).length ≤ 7 ^ ps.length := by
  refine snoc_ind (fun _ => Nat.le_refl _) fun ps p ih hp => ?_
  rw [allD_snoc]
  have h1 := ih fun q hq => hp q (List.mem_append_left _ hq)
  have h2 := hp p (List.mem_append_right _ (List.mem_singleton.mpr rfl))
  have h3 : ∀ rows : List (List Nat), (stepD rows p).length = rows.length * (p + 1) := fun rows => by
    unfold stepD
    induction rows with
    | nil => simp
    | cons r t ih =>
      rw [List.flatMap_cons, List.length_append, ih, List.length_map, List.length_range, List.length_cons, Nat.add_mul]
      omega
  rw [h3, List.length_append, List.length_singleton, Nat.pow_succ]
  exact Nat.mul_le_mul h1 (by omega)
/-- the total of notes with some dots -/
def totD : List Nat → List Nat → Nat
  | p :: ps, c :: cs => lenN p c + totD ps cs
  | _, _ => 0
theorem totD_nil (ps : List Nat) : totD ps [] = 0 := by cases ps <;> rfl
theorem totD_snoc : ∀ {ps r : List Nat} (p c : Nat), r.length = ps.length → totD (ps ++ [p]) (r ++ [c]) = totD ps r + lenN p c
  | [], [], p, c, _ => by simp [totD]
  | q :: ps, d :: r, p, c, h => by
    rw [List.cons_append, List.cons_append, totD, totD, totD_snoc p c (by simpa using h)]
    omega
theorem totD_take : ∀ (ps r : List Nat), totD (ps.take r.length) r = totD ps r
  | [], r => by simp
  | p :: ps, [] => by rw [totD_nil, totD_nil]
  | p :: ps, c :: r => by rw [List.length_cons, List.take_succ_cons, totD, totD, totD_take ps r]
theorem totD_range : ∀ (ps r : List Nat), ((List.range (min ps.length r.length)).map fun i => lenN (ps.getD i 0) (r.getD i 0)).sum = totD ps r
  | [], r => by simp [totD]
  | p :: ps, [] => by simp [totD]
  | p :: ps, c :: r => by
    have e : min (p :: ps).length (c :: r).length = min ps.length r.length + 1 := by simp
    rw [e, List.range_succ_eq_map, List.map_cons, List.sum_cons, List.map_map, totD, ← totD_range ps r]
    rfl
def due (ps : List Nat) (t : Int) : List (List Nat) := (allD ps).filter fun r => decide (((totD ps r : Nat) : Int) = t)
/-- in how many ways a total arises -/
def Wy (ps : List Nat) (t : Int) : Nat := (due ps t).length
theorem Wy_nil (t : Int) : Wy [] t = if t = 0 then 1 else 0 := by
  unfold Wy due
  show (List.filter (fun r => decide (((totD [] r : Nat) : Int) = t)) [[]]).length = _
  rw [List.filter_cons]
  show (if decide (((0 : Nat) : Int) = t) = true then [[]] else ([] : List (List Nat))).length = _
  by_cases h : t = 0
  · subst h
    simp
  · rw [if_neg (by simpa using fun e : (0 : Int) = t => h e.symm), if_neg h] <;> rfl
theorem sum_add (f g : Nat → Nat) : ∀ l : List Nat, (l.map fun c => f c + g c).sum = (l.map f).sum + (l.map g).sum
  | [] => rfl
  | x :: l => by
    rw [List.map_cons, List.map_cons, List.map_cons, List.sum_cons, List.sum_cons, List.sum_cons, sum_add f g l]
    omega
theorem len_filter (p : Nat → Bool) : ∀ l : List Nat, (l.filter p).length = (l.map fun c => if p c = true then 1 else 0).sum
  | [] => rfl
  | x :: l => by
    rw [List.filter_cons, List.map_cons, List.sum_cons, ← len_filter p l]
    by_cases h : p x = true
    · rw [if_pos h, if_pos h, List.length_cons]
      omega
    · rw [if_neg h, if_neg h]
      omega
theorem sum_zero (l : List Nat) : (l.map fun _ => 0).sum = 0 := by
  induction l with
  | nil => rfl
  | cons x l ih => rw [List.map_cons, List.sum_cons, ih]
theorem Wy_step (ps : List Nat) (p : Nat) (t : Int) : ∀ (rows : List (List Nat)), (∀ r ∈ rows, r.length = ps.length) →
    ((stepD rows p).filter fun r => decide (((totD (ps ++ [p]) r : Nat) : Int) = t)).length = ((List.range (p + 1)).map fun c => (rows.filter fun r => decide (((totD ps r : Nat) : Int) = t - ((lenN p c : Nat) : Int))).length).sum
  | [], _ => by
    show 0 = ((List.range (p + 1)).map fun _ => 0).sum
    rw [sum_zero]
  | r :: rows, h => by
    have ih := Wy_step ps p t rows fun q hq => h q (List.mem_cons_of_mem _ hq)
    have hr := h r List.mem_cons_self
    unfold stepD at ih ⊢
    rw [List.flatMap_cons, List.filter_append, List.length_append, ih, List.filter_map, List.length_map, len_filter]
    have e : ∀ c, (if (((fun r => decide (((totD (ps ++ [p]) r : Nat) : Int) = t)) ∘ fun c => r ++ [c]) c) = true then 1 else 0) = if decide (((totD ps r : Nat) : Int) = t - ((lenN p c : Nat) : Int)) = true then 1 else 0 := fun c => by
      have e2 : ((fun r => decide (((totD (ps ++ [p]) r : Nat) : Int) = t)) ∘ fun c => r ++ [c]) c = decide (((totD ps r : Nat) : Int) = t - ((lenN p c : Nat) : Int)) := by
        show decide (((totD (ps ++ [p]) (r ++ [c]) : Nat) : Int) = t) = _
        rw [totD_snoc p c hr, decide_eq_decide]
        omega
      rw [e2]
    rw [List.map_congr_left fun c _ => e c, ← sum_add]
    refine congrArg List.sum (List.map_congr_left fun c _ => ?_)
    rw [List.filter_cons]
    by_cases hc : decide (((totD ps r : Nat) : Int) = t - ((lenN p c : Nat) : Int)) = true
    · rw [if_pos hc, if_pos hc, List.length_cons]
      omega
    · rw [if_neg hc, if_neg hc]
      omega
theorem Wy_snoc (ps : List Nat) (p : Nat) (t : Int) : Wy (ps ++ [p]) t = ((List.range (p + 1)).map fun c => Wy ps (t - ((lenN p c : Nat) : Int))).sum := by
  unfold Wy due
  rw [allD_snoc]
  exact Wy_step ps p t (allD ps) fun r hr => (allD_ok ps r hr).1
theorem sum_swap (f : Nat → Nat → Nat) : ∀ (l m : List Nat), (l.map fun a => (m.map fun b => f a b).sum).sum = (m.map fun b => (l.map fun a => f a b).sum).sum
  | [], m => by
    show 0 = (m.map fun _ => 0).sum
    rw [sum_zero]
  | x :: l, m => by
    rw [List.map_cons, List.sum_cons, sum_swap f l m, ← sum_add] <;> rfl
theorem Wy_cons (p : Nat) : ∀ (ps : List Nat) (t : Int), Wy (p :: ps) t = ((List.range (p + 1)).map fun c => Wy ps (t - ((lenN p c : Nat) : Int))).sum := by
  refine snoc_ind (fun t => ?_) fun ps q ih t => ?_
  · exact Wy_snoc [] p t
  · rw [show p :: (ps ++ [q]) = (p :: ps) ++ [q] from rfl, Wy_snoc]
    have e1 : ∀ d, Wy (p :: ps) (t - ((lenN q d : Nat) : Int)) = ((List.range (p + 1)).map fun c => Wy ps (t - ((lenN q d : Nat) : Int) - ((lenN p c : Nat) : Int))).sum := fun d => ih _
    rw [List.map_congr_left fun d _ => e1 d, sum_swap]
    refine congrArg List.sum (List.map_congr_left fun c _ => ?_)
    rw [Wy_snoc]
    refine congrArg List.sum (List.map_congr_left fun d _ => ?_)
    congr 1
    omega
theorem Wy_rev : ∀ (ps : List Nat) (t : Int), Wy ps.reverse t = Wy ps t
  | [], t => rfl
  | p :: ps, t => by
    rw [List.reverse_cons, Wy_snoc, Wy_cons]
    exact congrArg List.sum (List.map_congr_left fun c _ => Wy_rev ps _)
theorem sum_pos {f : Nat → Nat} {l : List Nat} (h : 0 < (l.map f).sum) : ∃ c ∈ l, 0 < f c := by
  induction l with
  | nil => exact absurd h (by simp)
  | cons x l ih =>
    rw [List.map_cons, List.sum_cons] at h
    by_cases hx : 0 < f x
    · exact ⟨x, List.mem_cons_self, hx⟩
    · obtain ⟨c, hc, h1⟩ := ih (by omega)
      exact ⟨c, List.mem_cons_of_mem _ hc, h1⟩
theorem sum_pos' {f : Nat → Nat} {l : List Nat} {c : Nat} (hc : c ∈ l) (h : 0 < f c) : 0 < (l.map f).sum := by
  induction l with
  | nil => cases hc
  | cons x l ih =>
    rw [List.map_cons, List.sum_cons]
    rcases List.mem_cons.mp hc with rfl | hc
    · omega
    · have := ih hc
      omega
/-- the rows that can be completed -/
def canD (ps : List Nat) (i : Nat) (t : Int) (r : List Nat) : Bool := decide (0 < Wy (ps.drop i) (t - ((totD ps r : Nat) : Int)))
theorem canD_up {ps : List Nat} {i p : Nat} {t : Int} {r : List Nat} (hp : ps[i]? = some p) (hr : r.length = i) {c : Nat} (hc : c ≤ p) (h : canD ps (i + 1) t (r ++ [c]) = true) : canD ps i t r = true := by
  unfold canD at h ⊢
  rw [decide_eq_true_eq] at h ⊢
  have hlt := (List.getElem?_eq_some_iff.mp hp).1
  have hd : ps.drop i = p :: ps.drop (i + 1) := by
    rw [List.drop_eq_getElem_cons hlt, (List.getElem?_eq_some_iff.mp hp).2]
  have ht : totD ps (r ++ [c]) = totD ps r + lenN p c := by
    rw [← totD_take ps (r ++ [c]), List.length_append, List.length_singleton, hr, List.take_add_one, hp]
    show totD (ps.take i ++ [p]) (r ++ [c]) = _
    rw [totD_snoc p c (by rw [List.length_take]; omega), ← hr, totD_take]
  rw [hd, Wy_cons]
  refine sum_pos' (List.mem_range.mpr (show c < p + 1 by omega)) ?_
  rw [ht] at h
  have e : t - ((totD ps r + lenN p c : Nat) : Int) = t - ((totD ps r : Nat) : Int) - ((lenN p c : Nat) : Int) := by omega
  rw [e] at h
  exact h
/-- one place more: the rows that can be completed -/
theorem canD_step {ps : List Nat} {i p : Nat} {t : Int} (hp : ps[i]? = some p) (q : List Nat → Bool) (hq : ∀ r, canD ps i t r = true → q r = true) :
    ((allD (ps.take i)).filter q).flatMap (fun r => ((List.range (p + 1)).filter fun c => canD ps (i + 1) t (r ++ [c])).map fun c => r ++ [c]) = (allD (ps.take (i + 1))).filter (canD ps (i + 1) t) := by
  have hlt := (List.getElem?_eq_some_iff.mp hp).1
  have e : ps.take (i + 1) = ps.take i ++ [p] := by rw [List.take_add_one, hp] <;> rfl
  rw [e, allD_snoc]
  have hok := fun r hr => (allD_ok (ps.take i) r hr).1
  rw [List.length_take, Nat.min_eq_left (by omega)] at hok
  generalize allD (ps.take i) = rows at hok ⊢
  induction rows with
  | nil => rfl
  | cons r rows ih =>
    have ih := ih fun s hs => hok s (List.mem_cons_of_mem _ hs)
    have hr := hok r List.mem_cons_self
    unfold stepD at ih ⊢
    rw [List.flatMap_cons, List.filter_append, ← ih, List.filter_cons, List.filter_map]
    by_cases hc : q r = true
    · rw [if_pos hc, List.flatMap_cons] <;> rfl
    · rw [if_neg hc]
      have e0 : (List.range (p + 1)).filter ((canD ps (i + 1) t) ∘ fun c => r ++ [c]) = [] := by
        rw [List.filter_eq_nil_iff]
        intro c hcr hcan
        have := List.mem_range.mp hcr
        exact hc (hq r (canD_up hp hr (show c ≤ p by omega) hcan))
      rw [e0] <;> rfl
theorem due_end (ps : List Nat) (t : Int) (q : List Nat → Bool) (hq : ∀ r, canD ps ps.length t r = true → q r = true) : ((allD ps).filter q).filter (fun r => decide (((totD ps r : Nat) : Int) = t)) = due ps t := by
  unfold due
  rw [List.filter_filter]
  refine List.filter_congr fun r hr => ?_
  by_cases h : ((totD ps r : Nat) : Int) = t
  · rw [decide_eq_true h]
    have : q r = true := hq r (by
      unfold canD
      rw [List.drop_length, decide_eq_true_eq, Wy_nil, if_pos (by omega)]
      omega)
    rw [this] <;> rfl
  · rw [decide_eq_false h] <;> rfl
theorem tot_bd : ∀ (ps r : List Nat), (∀ p ∈ ps, p ≤ 10) → totD ps r ≤ 2047 * ps.length
  | [], r, _ => by simp [totD]
  | p :: ps, [], _ => by rw [totD_nil]; omega
  | p :: ps, c :: r, h => by
    have h1 := tot_bd ps r fun q hq => h q (List.mem_cons_of_mem _ hq)
    have h2 := h p List.mem_cons_self
    have h3 : lenN p c ≤ 2047 := by
      have h4 : 2 ^ (p + 1) ≤ 2 ^ 11 := Nat.pow_le_pow_right (by decide) (by omega)
      have h5 : 0 < 2 ^ (p - c) := Nat.two_pow_pos _
      unfold lenN
      omega
    rw [totD, List.length_cons]
    omega
/-! lists without doubles -/
theorem nodup_bd : ∀ (b : Nat) (l : List Int), l.Nodup → (∀ x ∈ l, 0 ≤ x ∧ x < (b : Int)) → l.length ≤ b
  | 0, l, _, h => by
    cases l with
    | nil => exact Nat.le_refl _
    | cons x l =>
      have := h x List.mem_cons_self
      omega
  | b + 1, l, nd, h => by
    have ih := nodup_bd b (l.erase (b : Int)) (nd.erase _) fun x hx => by
      have h1 := (nd.mem_erase_iff).mp hx
      have h2 := h x h1.2
      have h3 := h1.1
      omega
    have := List.length_erase (a := (b : Int)) (l := l)
    split at this <;> omega
theorem asc_ext : ∀ {l m : List Int}, l.Pairwise (· < ·) → m.Pairwise (· < ·) → (∀ x, x ∈ l ↔ x ∈ m) → l = m
  | [], [], _, _, _ => rfl
  | [], y :: m, _, _, h => absurd ((h y).mpr List.mem_cons_self) (by simp)
  | x :: l, [], _, _, h => absurd ((h x).mp List.mem_cons_self) (by simp)
  | x :: l, y :: m, hl, hm, h => by
    have hl1 := (List.pairwise_cons.mp hl).1
    have hm1 := (List.pairwise_cons.mp hm).1
    have e : x = y := by
      rcases List.mem_cons.mp ((h x).mp List.mem_cons_self) with e | h1
      · exact e
      · rcases List.mem_cons.mp ((h y).mpr List.mem_cons_self) with e | h2
        · exact e.symm
        · have a := hl1 y h2
          have b := hm1 x h1
          omega
    subst e
    congr 1
    refine asc_ext (List.pairwise_cons.mp hl).2 (List.pairwise_cons.mp hm).2 fun z => ?_
    constructor
    · intro hz
      rcases List.mem_cons.mp ((h z).mp (List.mem_cons_of_mem _ hz)) with e | h1
      · have := hl1 z hz
        omega
      · exact h1
    · intro hz
      rcases List.mem_cons.mp ((h z).mpr (List.mem_cons_of_mem _ hz)) with e | h1
      · have := hm1 z hz
        omega
      · exact h1
theorem asc_of {ys ks : List Int} (hp : ys.Perm ks) (hs : ys.Pairwise (· ≤ ·)) (nd : ks.Nodup) : ys.Pairwise (· < ·) := by
  have nd2 : ys.Nodup := hp.nodup_iff.mpr nd
  exact (hs.and nd2).imp fun {a b} h => by
    have h1 := h.1
    have h2 : a ≠ b := h.2
    omega
/-! entries: a key, a count -/
def sumE (es : List (Int × Nat)) (t : Int) : Nat := (es.map fun e => if e.1 = t then e.2 else 0).sum
structure RepD (es : List (Int × Nat)) (g : Int → Nat) : Prop where
  nd : (es.map (·.1)).Nodup
  pos : ∀ e ∈ es, 0 < e.2
  sum : ∀ t, sumE es t = g t
theorem sumE_app (a b : List (Int × Nat)) (t : Int) : sumE (a ++ b) t = sumE a t + sumE b t := by
  unfold sumE
  rw [List.map_append, List.sum_append]
theorem sumE_out {es : List (Int × Nat)} {t : Int} (h : ∀ e ∈ es, e.1 ≠ t) : sumE es t = 0 := by
  induction es with
  | nil => rfl
  | cons e r ih =>
    have h1 := h e List.mem_cons_self
    have h2 := ih fun f hf => h f (List.mem_cons_of_mem _ hf)
    unfold sumE at h2 ⊢
    rw [List.map_cons, List.sum_cons, if_neg h1, h2]
theorem sumE_in {es : List (Int × Nat)} (nd : (es.map (·.1)).Nodup) {e : Int × Nat} (h : e ∈ es) : sumE es e.1 = e.2 := by
  induction es with
  | nil => cases h
  | cons f r ih =>
    rw [List.map_cons, List.nodup_cons] at nd
    have hs : sumE (f :: r) e.1 = (if f.1 = e.1 then f.2 else 0) + sumE r e.1 := by
      unfold sumE
      rw [List.map_cons, List.sum_cons]
    rw [hs]
    rcases List.mem_cons.mp h with rfl | h
    · rw [if_pos rfl, sumE_out fun g hg q => nd.1 (List.mem_map.mpr ⟨g, hg, q⟩)]
      omega
    · rw [if_neg fun q => nd.1 (List.mem_map.mpr ⟨e, h, q.symm⟩), ih nd.2 h]
      omega
theorem RepD.mem {es : List (Int × Nat)} {g : Int → Nat} (r : RepD es g) (t : Int) : t ∈ es.map (·.1) ↔ 0 < g t := by
  rw [← r.sum t]
  constructor
  · intro h
    obtain ⟨e, he, rfl⟩ := List.mem_map.mp h
    rw [sumE_in r.nd he]
    exact r.pos e he
  · intro h
    rcases Classical.em (t ∈ es.map (·.1)) with h1 | h1
    · exact h1
    · rw [sumE_out fun e he q => h1 (List.mem_map.mpr ⟨e, he, q⟩)] at h
      omega
theorem RepD.len {es : List (Int × Nat)} {g : Int → Nat} (r : RepD es g) {b : Nat} (h : ∀ e ∈ es, 0 ≤ e.1 ∧ e.1 ≤ (b : Int)) : es.length ≤ b + 1 := by
  have := nodup_bd (b + 1) (es.map (·.1)) r.nd fun x hx => by
    obtain ⟨e, he, rfl⟩ := List.mem_map.mp hx
    have := h e he
    omega
  rw [List.length_map] at this
  exact this
end Xl

namespace Xl
open PySem PySem.Spec PyProof.Rows L2
local macro_rules | `(tactic| walk_at "x1") => `(tactic| first
  | ((with_reducible show tVar _ _ _ _); refine x_var rfl ?_)
  | (with_reducible refine x_c ?_)
  | (with_reducible refine x_II ?_)
  | ((with_reducible refine x_sd ?_ ?_); (first | (· first | exact trivial | decide | omega | exact .inl ⟨by omega, by omega⟩ | exact .inr ⟨by omega, by omega⟩ | exact ⟨by omega, by omega⟩ | exact ⟨by decide, by decide, by decide⟩) | rotate_left))
  | (with_reducible refine x_asB ?_)
  | (with_reducible refine x_seq ?_)
  | (with_reducible refine x_asgN ?_)
  | (with_reducible refine x_gN ?_)
  | (with_reducible refine x_asg ?_)
  | (with_reducible refine x_drop ?_)
  | (with_reducible refine x_ret ?_)
  | (with_reducible refine x_retN ?_)
  | (with_reducible refine x_next ?_)
  | (with_reducible refine x_if ?_)
  | (with_reducible refine x_brk ?_)
  | (with_reducible refine x_cont ?_)
  | (with_reducible refine x_opI0 ?_)
  | (with_reducible refine x_opI ?_)
  | (with_reducible refine x_opEq ?_)
  | (with_reducible refine x_opNe ?_)
  | (with_reducible refine x_op ?_)
  | (with_reducible refine x_chain ?_)
  | (with_reducible refine x_unI ?_)
  | (with_reducible refine x_gsub ?_)
  | (with_reducible refine x_callN ?_)
  | ((with_reducible show Cn _ _ _ _ _); refine x_Cn rfl rfl ?_)
  | (with_reducible refine x_dget ?_)
  | (with_reducible refine x_din ?_)
  | (with_reducible refine x_dni ?_)
  | (with_reducible refine x_dput ?_)
  | (with_reducible refine x_lc2L ?_)
  | (with_reducible refine x_sl ?_)
  | (with_reducible refine x_noPart ?_)
  | (with_reducible refine x_part ?_)
  | (with_reducible refine x_asO ?_)
  | (with_reducible refine x_rI0 ?_)
  | (with_reducible refine x_rI ?_)
  | (with_reducible refine x_eqI ?_)
  | (with_reducible refine x_neI ?_)
  | (with_reducible refine x_eqS ?_)
  | (with_reducible refine x_neS ?_)
  | (with_reducible refine x_eqB ?_)
  | (with_reducible refine x_neB ?_)
  | (with_reducible refine x_tst ?_)
  | (with_reducible refine x_tB ?_)
  | (with_reducible refine x_and ?_)
  | (with_reducible refine x_or ?_)
  | (with_reducible refine x_not ?_)
  | (with_reducible refine x_andV ?_)
  | (with_reducible refine x_orV ?_)
  | (with_reducible refine x_notV ?_)
  | (with_reducible refine x_ifE ?_)
  | (with_reducible refine x_nilA ?_)
  | (with_reducible refine x_consA ?_)
  | (with_reducible refine x_tup ?_)
  | (with_reducible refine x_lst ?_)
  | (with_reducible refine x_call ?_)
  | (with_reducible refine x_callD ?_)
  | (with_reducible refine x_cb ?_)
  | (with_reducible refine x_min2 ?_)
  | (with_reducible refine x_max2 ?_)
  | (with_reducible refine x_par ?_)
  | (with_reducible refine x_Par ?_)
  | (with_reducible refine x_par3 ?_)
  | (with_reducible refine x_Par3 ?_)
  | ((with_reducible show tAug _ _ _ _ _ _); refine x_aug rfl ?_)
  | (with_reducible refine x_ipI ?_)
  | (with_reducible refine x_forR1 ?_)
  | (with_reducible refine x_forR2 ?_)
  | (with_reducible refine x_forL ?_)
  | (with_reducible refine x_forT ?_)
  | (with_reducible refine x_lcL ?_)
  | (with_reducible refine x_lcT ?_)
  | (with_reducible refine x_lcR1 ?_)
  | (with_reducible refine x_lcR2 ?_)
  | ((with_reducible refine x_R1 ?_ ?_); (first | (· first | decide | omega) | rotate_left))
  | ((with_reducible refine x_R2 ?_ ?_); (first | (· first | decide | omega) | rotate_left))
  | (with_reducible refine x_yes ?_)
  | (with_reducible refine b_t rfl ?_)
  | (with_reducible refine b_f rfl ?_))
local macro_rules | `(tactic| walk_at "x") => `(tactic| repeat walk_at "x1")
local macro_rules | `(tactic| walk_at "bf") => `(tactic| refine b_f (by first | exact decide_eq_false (by omega) | (simp; done) | (simp; omega)) ?_)
local macro_rules | `(tactic| walk_at "bt") => `(tactic| refine b_t (by first | exact decide_eq_true (by omega) | (simp; done) | (simp; omega)) ?_)

local macro_rules | `(tactic| walk_at "x1") => `(tactic| first
  | (with_reducible refine x_mk ?_)
  | (with_reducible refine x_mkV ?_)
  | (with_reducible refine x_cmeth ?_)
  | (with_reducible refine x_isC ?_)
  | (with_reducible refine x_prop ?_)
  | (with_reducible refine x_fld ?_)
  | (with_reducible refine x_sfld ?_)
  | (with_reducible refine x_fmtD ?_))
local macro_rules | `(tactic| walk_at "x1") => `(tactic| with_reducible refine x_revL ?_)

/-! ### the notes as objects -/
def CN (K : PySem.W.Frag) : Addr := He.ga K "Note"
def nF (p c : Nat) : List (Str × V) := [("height", .int p), ("points", .int c), ("n", .int (lenN p c))]
def IsN (K : PySem.W.Frag) (H : Hp) (a : Addr) (p c : Nat) : Prop := ∃ dx, H a = some (.ins (He.ga K "Note") dx (nF p c))
theorem IsN.ex {K : PySem.W.Frag} {H H' : Hp} {a : Addr} {p c : Nat} (e : Ex H H') (h : IsN K H a p c) : IsN K H' a p c := let ⟨dx, h⟩ := h; ⟨dx, e _ _ h⟩
def dN (K : PySem.W.Frag) (p c : Nat) : D := .obj (He.ga K "Note") [("height", .int p), ("points", .int c), ("n", .int (lenN p c))]
theorem IsN.rp {K : PySem.W.Frag} {H : Hp} {a : Addr} {p c : Nat} (h : IsN K H a p c) : Rp K H (.ref a) (dN K p c) := let ⟨dx, h⟩ := h; .obj h (.cons (.int _) (.cons (.int _) (.cons (.int _) .nil)))
theorem Rp.isN {K : PySem.W.Frag} {H : Hp} {v : V} {p c : Nat} (h : Rp K H v (dN K p c)) : ∃ a, v = .ref a ∧ IsN K H a p c := by
  obtain ⟨a, dx, fs, e, h1, h2⟩ := h.o
  cases h2 with
  | cons r1 h2 =>
    cases h2 with
    | cons r2 h2 =>
      cases h2 with
      | cons r3 h2 =>
        cases h2
        rw [r1.i, r2.i, r3.i] at h1
        exact ⟨a, e, dx, h1⟩

def sp_is_integer (K : PySem.W.Frag) : Sp := fun vs H Q _ => ∃ i lo hi : Int, vs = [.int i, .int lo, .int hi] ∧ Q (.bl (decide (lo ≤ i ∧ i ≤ hi))) H
theorem len_is_integer {K : PySem.W.Frag} : ∀ vs H Q E, sp_is_integer K vs H Q E → vs.length = 3 := by
  rintro _ H Q E ⟨_, _, _, rfl, _⟩
  rfl
/-- is_integer: value low high -/
def t_is_integer (K : PySem.W.Frag) : TS := (tRet (tAndV (tCB (rIsi K) (tCons (tVar 0) (tCons (tC (.ty "int")) tNil))) (tAndV (tNotV (tCB (rIsi K) (tCons (tVar 0) (tCons (tC (.ty "bool")) tNil)))) (tChain rLe rLe (tVar 1) (tVar 0) (tVar 2)))))

theorem run_is_integer {K : PySem.W.Frag} {vs : List V} {H : Hp} {Q : VK} {E : XK} (h : sp_is_integer K vs H Q E) : t_is_integer K { nx := fun _ H' => Q .non H', rt := Q } (start ["value", "low", "high"] vs) H := by
  obtain ⟨i, lo, hi, rfl, q⟩ := h
  unfold t_is_integer
  walk_at "x"
  refine x_isiTy (TyX.base (.int i)) (r := true) (by decide +kernel) ?_
  walk_at "x"
  refine x_isiTy (TyX.base (.int i)) (r := false) (by decide +kernel) ?_
  walk_at "x"
  refine b_d (fun h1 => ?_) (fun h1 => ?_)
  · walk_at "x"
    by_cases h2 : i ≤ hi
    · rw [decide_eq_true h2]
      rw [decide_eq_true ⟨h1, h2⟩] at q
      exact q
    · rw [decide_eq_false h2]
      rw [decide_eq_false fun z => h2 z.2] at q
      exact q
  · rw [decide_eq_false fun z => h1 z.1] at q
    exact q

/-- what is known of the class -/
structure NtT (K : PySem.W.Frag) : Prop where
  cl : Cls K (He.ga K "Note")
  h : NoAttr K (He.ga K "Note") "height"
  p : NoAttr K (He.ga K "Note") "points"
  n : NoAttr K (He.ga K "Note") "n"
  ic : C8.InsC K (He.ga K "Note")
def sp_Note__init (K : PySem.W.Frag) : Sp := fun vs H Q _ => ∃ (a dx : Addr) (p c : Nat), vs = [.ref a, .int p, .int c] ∧ c ≤ p ∧ p ≤ 10 ∧ H a = some (.ins (He.ga K "Note") dx []) ∧
  ∀ H', Ex (wo H a) H' → H' a = some (.ins (He.ga K "Note") dx (nF p c)) → Q .non H'
theorem len_Note__init {K : PySem.W.Frag} : ∀ vs H Q E, sp_Note__init K vs H Q E → vs.length = 3 := by
  rintro _ H Q E ⟨_, _, _, _, rfl, _⟩
  rfl
/-- Note.__init__: self power dots -/
def t_Note__init (K : PySem.W.Frag) : TS := (tSeq (tIfS (tOr (tNot (tB (tCall (sp_is_integer K) [] E0 (tCons (tVar 1) (tCons (tC (.int 0)) (tCons (tC (.int 10)) tNil)))))) (tNot (tB (tCall (sp_is_integer K) [] E0 (tCons (tVar 2) (tCons (tC (.int 0)) (tCons (tVar 1) tNil))))))) tNo tNext) (tSeq (sFld K (tVar 0) (tVar 1) "height") (tSeq (sFld K (tVar 0) (tVar 2) "points") (sFld K (tVar 0) (tCall (sp_length_of K) [] E0 (tCons (tVar 1) (tCons (tVar 2) tNil))) "n"))))

theorem run_Note__init {K : PySem.W.Frag} (T : NtT K) {vs : List V} {H : Hp} {Q : VK} {E : XK} (h : sp_Note__init K vs H Q E) : t_Note__init K { nx := fun _ H' => Q .non H', rt := Q } (start ["self", "power", "dots"] vs) H := by
  obtain ⟨a, dx, p, c, rfl, hc, hp, ha, q⟩ := h
  unfold t_Note__init
  walk_at "x"
  refine ⟨_, _, _, rfl, ?_⟩
  rw [decide_eq_true (show (0 : Int) ≤ p ∧ (p : Int) ≤ 10 by omega)]
  walk_at "x"
  refine ⟨_, _, _, rfl, ?_⟩
  rw [decide_eq_true (show (0 : Int) ≤ c ∧ (c : Int) ≤ p by omega)]
  walk_at "x"
  refine x_SFld ha T.cl T.h (by decide) ?_
  walk_at "x"
  refine x_SFld upd_same T.cl T.p (Nat.le_of_ble_eq_true rfl) ?_
  walk_at "x"
  refine ⟨p, c, rfl, hc, hp, ?_⟩
  walk_at "x"
  refine x_SFld upd_same T.cl T.n (Nat.le_of_ble_eq_true rfl) ?_
  refine q _ ?_ ?_
  · intro b o hb
    have hn : b ≠ a := fun e => by
      subst e
      rw [wo_same] at hb
      cases hb
    rw [wo_ne hn] at hb
    rw [upd_ne hn, upd_ne hn, upd_ne hn]
    exact hb
  · rw [upd_same] <;> rfl
/-- a new note -/
theorem x_note {K : PySem.W.Frag} {p c : Nat} {H : Hp} {Q : VK} (hc : c ≤ p) (hp : p ≤ 10) (q : ∀ a H', Ex H H' → H a = none → IsN K H' a p c → Q (.ref a) H') : Mkd (He.ga K "Note") (sp_Note__init K) [.int p, .int c] H Q := by
  intro x dx hx hd hn
  refine ⟨x, dx, p, c, rfl, hc, hp, upd_same, fun H' e h => ⟨rfl, q x H' ?_ hx ⟨dx, h⟩⟩⟩
  intro b o hb
  have h1 : b ≠ x := ne_of_none hb hx
  have h2 : b ≠ dx := ne_of_none hb hd
  refine e b o ?_
  rw [wo_ne h1, upd_ne h1, upd_ne h2]
  exact hb

def sp_Note_power (K : PySem.W.Frag) : Sp := fun vs H Q _ => ∃ (a : Addr) (p c : Nat), vs = [.ref a] ∧ IsN K H a p c ∧ Q (.int p) H
theorem len_Note_power {K : PySem.W.Frag} : ∀ vs H Q E, sp_Note_power K vs H Q E → vs.length = 1 := by
  rintro _ H Q E ⟨_, _, _, rfl, _⟩
  rfl
/-- Note.power: self -/
def t_Note_power (K : PySem.W.Frag) : TS := (tRet (tFld K (tVar 0) "height"))

theorem run_Note_power {K : PySem.W.Frag} (T : NtT K) {vs : List V} {H : Hp} {Q : VK} {E : XK} (h : sp_Note_power K vs H Q E) : t_Note_power K { nx := fun _ H' => Q .non H', rt := Q } (start ["self"] vs) H := by
  obtain ⟨a, p, c, rfl, ⟨dx, h⟩, q⟩ := h
  unfold t_Note_power
  walk_at "x"
  exact x_Fld h T.cl T.h rfl q
def sp_Note_dots (K : PySem.W.Frag) : Sp := fun vs H Q _ => ∃ (a : Addr) (p c : Nat), vs = [.ref a] ∧ IsN K H a p c ∧ Q (.int c) H
theorem len_Note_dots {K : PySem.W.Frag} : ∀ vs H Q E, sp_Note_dots K vs H Q E → vs.length = 1 := by
  rintro _ H Q E ⟨_, _, _, rfl, _⟩
  rfl
/-- Note.dots: self -/
def t_Note_dots (K : PySem.W.Frag) : TS := (tRet (tFld K (tVar 0) "points"))

theorem run_Note_dots {K : PySem.W.Frag} (T : NtT K) {vs : List V} {H : Hp} {Q : VK} {E : XK} (h : sp_Note_dots K vs H Q E) : t_Note_dots K { nx := fun _ H' => Q .non H', rt := Q } (start ["self"] vs) H := by
  obtain ⟨a, p, c, rfl, ⟨dx, h⟩, q⟩ := h
  unfold t_Note_dots
  walk_at "x"
  exact x_Fld h T.cl T.p rfl q
def sp_Note_length (K : PySem.W.Frag) : Sp := fun vs H Q _ => ∃ (a : Addr) (p c : Nat), vs = [.ref a] ∧ IsN K H a p c ∧ Q (.int (lenN p c)) H
theorem len_Note_length {K : PySem.W.Frag} : ∀ vs H Q E, sp_Note_length K vs H Q E → vs.length = 1 := by
  rintro _ H Q E ⟨_, _, _, rfl, _⟩
  rfl
/-- Note.length: self -/
def t_Note_length (K : PySem.W.Frag) : TS := (tRet (tFld K (tVar 0) "n"))

theorem run_Note_length {K : PySem.W.Frag} (T : NtT K) {vs : List V} {H : Hp} {Q : VK} {E : XK} (h : sp_Note_length K vs H Q E) : t_Note_length K { nx := fun _ H' => Q .non H', rt := Q } (start ["self"] vs) H := by
  obtain ⟨a, p, c, rfl, ⟨dx, h⟩, q⟩ := h
  unfold t_Note_length
  walk_at "x"
  exact x_Fld h T.cl T.n rfl q
/-- isinstance of a note -/
theorem x_isiN {K : PySem.W.Frag} (T : NtT K) {H : Hp} {Q : VK} {a dx : Addr} {fs : List (Str × V)} (h : H a = some (.ins (He.ga K "Note") dx fs)) (q : Q (.bl true) H) : rIsi K [.ref a, .ref (He.ga K "Note")] H Q :=
  ⟨_, _, _, _, true, rfl, .own _, .base (TyOf.ins h T.ic.cl T.ic.ha T.ic.hn T.ic.htk T.ic.hm), T.ic.me, q⟩
def sp_Note__eq (K : PySem.W.Frag) : Sp := fun vs H Q _ => ∃ (a b : Addr) (p c p' c' : Nat), vs = [.ref a, .ref b] ∧ IsN K H a p c ∧ IsN K H b p' c' ∧ Q (.bl (decide (lenN p c = lenN p' c'))) H
theorem len_Note__eq {K : PySem.W.Frag} : ∀ vs H Q E, sp_Note__eq K vs H Q E → vs.length = 2 := by
  rintro _ H Q E ⟨_, _, _, _, _, _, rfl, _⟩
  rfl
/-- Note.__eq__: self other -/
def t_Note__eq (K : PySem.W.Frag) : TS := (tSeq (tIfS (tNot (tB (tCB (rIsi K) (tCons (tVar 1) (tCons (tC (.ref (He.ga K "Note"))) tNil))))) tNo tNext) (tRet (tOp rEq (tFld K (tVar 0) "n") (tFld K (tVar 1) "n"))))

theorem run_Note__eq {K : PySem.W.Frag} (T : NtT K) {vs : List V} {H : Hp} {Q : VK} {E : XK} (h : sp_Note__eq K vs H Q E) : t_Note__eq K { nx := fun _ H' => Q .non H', rt := Q } (start ["self", "other"] vs) H := by
  obtain ⟨a, b, p, c, p', c', rfl, ⟨dx, h⟩, ⟨dy, h'⟩, q⟩ := h
  unfold t_Note__eq
  walk_at "x"
  refine x_isiN T h' ?_
  walk_at "x"
  refine x_Fld h T.cl T.n rfl ?_
  walk_at "x"
  refine x_Fld h' T.cl T.n rfl ?_
  refine x_eqI ?_
  have e : decide (((lenN p c : Nat) : Int) = ((lenN p' c' : Nat) : Int)) = decide (lenN p c = lenN p' c') := by
    rw [decide_eq_decide]
    omega
  rw [e]
  exact q
def sp_Note__lt (K : PySem.W.Frag) : Sp := fun vs H Q _ => ∃ (a b : Addr) (p c p' c' : Nat), vs = [.ref a, .ref b] ∧ IsN K H a p c ∧ IsN K H b p' c' ∧ Q (.bl (decide (lenN p c < lenN p' c'))) H
theorem len_Note__lt {K : PySem.W.Frag} : ∀ vs H Q E, sp_Note__lt K vs H Q E → vs.length = 2 := by
  rintro _ H Q E ⟨_, _, _, _, _, _, rfl, _⟩
  rfl
/-- Note.__lt__: self other -/
def t_Note__lt (K : PySem.W.Frag) : TS := (tSeq (tIfS (tNot (tB (tCB (rIsi K) (tCons (tVar 1) (tCons (tC (.ref (He.ga K "Note"))) tNil))))) tNo tNext) (tRet (tOp rLt (tFld K (tVar 0) "n") (tFld K (tVar 1) "n"))))

theorem run_Note__lt {K : PySem.W.Frag} (T : NtT K) {vs : List V} {H : Hp} {Q : VK} {E : XK} (h : sp_Note__lt K vs H Q E) : t_Note__lt K { nx := fun _ H' => Q .non H', rt := Q } (start ["self", "other"] vs) H := by
  obtain ⟨a, b, p, c, p', c', rfl, ⟨dx, h⟩, ⟨dy, h'⟩, q⟩ := h
  unfold t_Note__lt
  walk_at "x"
  refine x_isiN T h' ?_
  walk_at "x"
  refine x_Fld h T.cl T.n rfl ?_
  walk_at "x"
  refine x_Fld h' T.cl T.n rfl ?_
  walk_at "x"
  have e : decide (((lenN p c : Nat) : Int) < ((lenN p' c' : Nat) : Int)) = decide (lenN p c < lenN p' c') := by
    rw [decide_eq_decide]
    omega
  rw [e]
  exact q
def sp_Note__le (K : PySem.W.Frag) : Sp := fun vs H Q _ => ∃ (a b : Addr) (p c p' c' : Nat), vs = [.ref a, .ref b] ∧ IsN K H a p c ∧ IsN K H b p' c' ∧ Q (.bl (decide (lenN p c ≤ lenN p' c'))) H
theorem len_Note__le {K : PySem.W.Frag} : ∀ vs H Q E, sp_Note__le K vs H Q E → vs.length = 2 := by
  rintro _ H Q E ⟨_, _, _, _, _, _, rfl, _⟩
  rfl
/-- Note.__le__: self other -/
def t_Note__le (K : PySem.W.Frag) : TS := (tSeq (tIfS (tNot (tB (tCB (rIsi K) (tCons (tVar 1) (tCons (tC (.ref (He.ga K "Note"))) tNil))))) tNo tNext) (tRet (tOp rLe (tFld K (tVar 0) "n") (tFld K (tVar 1) "n"))))

theorem run_Note__le {K : PySem.W.Frag} (T : NtT K) {vs : List V} {H : Hp} {Q : VK} {E : XK} (h : sp_Note__le K vs H Q E) : t_Note__le K { nx := fun _ H' => Q .non H', rt := Q } (start ["self", "other"] vs) H := by
  obtain ⟨a, b, p, c, p', c', rfl, ⟨dx, h⟩, ⟨dy, h'⟩, q⟩ := h
  unfold t_Note__le
  walk_at "x"
  refine x_isiN T h' ?_
  walk_at "x"
  refine x_Fld h T.cl T.n rfl ?_
  walk_at "x"
  refine x_Fld h' T.cl T.n rfl ?_
  walk_at "x"
  have e : decide (((lenN p c : Nat) : Int) ≤ ((lenN p' c' : Nat) : Int)) = decide (lenN p c ≤ lenN p' c') := by
    rw [decide_eq_decide]
    omega
  rw [e]
  exact q
def strN (p c : Nat) : Str := (Str.empty ++ toString (p : Int)) ++ repS "." c
def sp_Note__str (K : PySem.W.Frag) : Sp := fun vs H Q _ => ∃ (a : Addr) (p c : Nat), vs = [.ref a] ∧ c ≤ p ∧ p ≤ 10 ∧ IsN K H a p c ∧ Q (.str (strN p c)) H
theorem len_Note__str {K : PySem.W.Frag} : ∀ vs H Q E, sp_Note__str K vs H Q E → vs.length = 1 := by
  rintro _ H Q E ⟨_, _, _, rfl, _⟩
  rfl
/-- Note.__str__: self dots -/
def t_Note__str (K : PySem.W.Frag) : TS := (tSeq (tAsg (tOp rRepS (tC (.str (Str.ofString "."))) (tFld K (tVar 0) "points")) (gName 1)) (tRet (tJoin [(tFmtD (tFld K (tVar 0) "height")), (tFmt (tVar 1))])))

theorem run_Note__str {K : PySem.W.Frag} (T : NtT K) {vs : List V} {H : Hp} {Q : VK} {E : XK} (h : sp_Note__str K vs H Q E) : t_Note__str K { nx := fun _ H' => Q .non H', rt := Q } (start ["self", "dots"] vs) H := by
  obtain ⟨a, p, c, rfl, hc, hp, ⟨dx, h⟩, q⟩ := h
  unfold t_Note__str
  walk_at "x"
  refine x_Fld h T.cl T.p rfl ?_
  refine x_repS (by decide) (by omega) ?_
  walk_at "x"
  unfold tJoin tJs
  walk_at "x"
  refine x_Fld h T.cl T.h rfl ?_
  refine x_FmtD (by omega) ?_
  have l1 : (Str.empty ++ (Str.ofString (toString (p : Int)))).length ≤ 10 := by
    match p, hp with
    | 0, _ => decide +kernel
    | 1, _ => decide +kernel
    | 2, _ => decide +kernel
    | 3, _ => decide +kernel
    | 4, _ => decide +kernel
    | 5, _ => decide +kernel
    | 6, _ => decide +kernel
    | 7, _ => decide +kernel
    | 8, _ => decide +kernel
    | 9, _ => decide +kernel
    | 10, _ => decide +kernel
  refine ⟨_, rfl, big_le (by exact Nat.le_trans l1 (by decide)), ?_⟩
  unfold tJs
  unfold tFmt
  refine ⟨_, rfl, .inl ⟨_, rfl, ?_, _, rfl, ?_, ?_⟩⟩
  · exact big_le (Nat.le_trans (repS_len (by decide) (by omega) (by omega)) (by decide))
  · refine big_le ?_
    have h1 : ((Str.empty ++ (Str.ofString (toString (p : Int)))) ++ repS "." c).length = (Str.empty ++ (Str.ofString (toString (p : Int)))).length + (repS "." c).length := Array.size_append
    have h2 := repS_len (z := ".") (n := c) (by decide) (by omega) (by omega)
    exact Nat.le_trans (Nat.le_of_eq h1) (by omega)
  · exact q
end Xl

namespace Xl
open PySem PySem.Spec PyProof.Rows L2
local macro_rules | `(tactic| walk_at "x1") => `(tactic| first
  | ((with_reducible show tVar _ _ _ _); refine x_var rfl ?_)
  | (with_reducible refine x_c ?_)
  | (with_reducible refine x_II ?_)
  | ((with_reducible refine x_sd ?_ ?_); (first | (· first | exact trivial | decide | omega | exact .inl ⟨by omega, by omega⟩ | exact .inr ⟨by omega, by omega⟩ | exact ⟨by omega, by omega⟩ | exact ⟨by decide, by decide, by decide⟩) | rotate_left))
  | (with_reducible refine x_asB ?_)
  | (with_reducible refine x_seq ?_)
  | (with_reducible refine x_asgN ?_)
  | (with_reducible refine x_gN ?_)
  | (with_reducible refine x_asg ?_)
  | (with_reducible refine x_drop ?_)
  | (with_reducible refine x_ret ?_)
  | (with_reducible refine x_retN ?_)
  | (with_reducible refine x_next ?_)
  | (with_reducible refine x_if ?_)
  | (with_reducible refine x_brk ?_)
  | (with_reducible refine x_cont ?_)
  | (with_reducible refine x_opI0 ?_)
  | (with_reducible refine x_opI ?_)
  | (with_reducible refine x_opEq ?_)
  | (with_reducible refine x_opNe ?_)
  | (with_reducible refine x_op ?_)
  | (with_reducible refine x_chain ?_)
  | (with_reducible refine x_unI ?_)
  | (with_reducible refine x_gsub ?_)
  | (with_reducible refine x_callN ?_)
  | ((with_reducible show Cn _ _ _ _ _); refine x_Cn rfl rfl ?_)
  | (with_reducible refine x_dget ?_)
  | (with_reducible refine x_din ?_)
  | (with_reducible refine x_dni ?_)
  | (with_reducible refine x_dput ?_)
  | (with_reducible refine x_lc2L ?_)
  | (with_reducible refine x_sl ?_)
  | (with_reducible refine x_noPart ?_)
  | (with_reducible refine x_part ?_)
  | (with_reducible refine x_asO ?_)
  | (with_reducible refine x_rI0 ?_)
  | (with_reducible refine x_rI ?_)
  | (with_reducible refine x_eqI ?_)
  | (with_reducible refine x_neI ?_)
  | (with_reducible refine x_eqS ?_)
  | (with_reducible refine x_neS ?_)
  | (with_reducible refine x_eqB ?_)
  | (with_reducible refine x_neB ?_)
  | (with_reducible refine x_tst ?_)
  | (with_reducible refine x_tB ?_)
  | (with_reducible refine x_and ?_)
  | (with_reducible refine x_or ?_)
  | (with_reducible refine x_not ?_)
  | (with_reducible refine x_andV ?_)
  | (with_reducible refine x_orV ?_)
  | (with_reducible refine x_notV ?_)
  | (with_reducible refine x_ifE ?_)
  | (with_reducible refine x_nilA ?_)
  | (with_reducible refine x_consA ?_)
  | (with_reducible refine x_tup ?_)
  | (with_reducible refine x_lst ?_)
  | (with_reducible refine x_call ?_)
  | (with_reducible refine x_callD ?_)
  | (with_reducible refine x_cb ?_)
  | (with_reducible refine x_min2 ?_)
  | (with_reducible refine x_max2 ?_)
  | (with_reducible refine x_par ?_)
  | (with_reducible refine x_Par ?_)
  | (with_reducible refine x_par3 ?_)
  | (with_reducible refine x_Par3 ?_)
  | ((with_reducible show tAug _ _ _ _ _ _); refine x_aug rfl ?_)
  | (with_reducible refine x_ipI ?_)
  | (with_reducible refine x_forR1 ?_)
  | (with_reducible refine x_forR2 ?_)
  | (with_reducible refine x_forL ?_)
  | (with_reducible refine x_forT ?_)
  | (with_reducible refine x_lcL ?_)
  | (with_reducible refine x_lcT ?_)
  | (with_reducible refine x_lcR1 ?_)
  | (with_reducible refine x_lcR2 ?_)
  | ((with_reducible refine x_R1 ?_ ?_); (first | (· first | decide | omega) | rotate_left))
  | ((with_reducible refine x_R2 ?_ ?_); (first | (· first | decide | omega) | rotate_left))
  | (with_reducible refine x_yes ?_)
  | (with_reducible refine b_t rfl ?_)
  | (with_reducible refine b_f rfl ?_))
local macro_rules | `(tactic| walk_at "x") => `(tactic| repeat walk_at "x1")
local macro_rules | `(tactic| walk_at "bf") => `(tactic| refine b_f (by first | exact decide_eq_false (by omega) | (simp; done) | (simp; omega)) ?_)
local macro_rules | `(tactic| walk_at "bt") => `(tactic| refine b_t (by first | exact decide_eq_true (by omega) | (simp; done) | (simp; omega)) ?_)

local macro_rules | `(tactic| walk_at "x1") => `(tactic| first
  | (with_reducible refine x_mk ?_)
  | (with_reducible refine x_mkV ?_)
  | (with_reducible refine x_cmeth ?_)
  | (with_reducible refine x_isC ?_)
  | (with_reducible refine x_prop ?_)
  | (with_reducible refine x_fld ?_)
  | (with_reducible refine x_sfld ?_)
  | (with_reducible refine x_fmtD ?_))
local macro_rules | `(tactic| walk_at "x1") => `(tactic| with_reducible refine x_revL ?_)

theorem pair_at {K : PySem.W.Frag} {H : Hp} {ys : List V} {ps : List (Nat × Nat)} {i : Nat} {x : V} (r : RpL K H ys (ps.map dPair)) (h : ys[i]? = some x) : ∃ p c a, ps[i]? = some (p, c) ∧ x = .ref a ∧ SqT K H a [.int (p : Int), .int (c : Int)] := by
  obtain ⟨d, hd, rd⟩ := r.at' h
  rw [List.getElem?_map] at hd
  cases e : ps[i]? with
  | none =>
    rw [e] at hd
    cases hd
  | some q =>
    rw [e] at hd
    obtain rfl : dPair q = d := Option.some.inj hd
    obtain ⟨a, hx, hs⟩ := Rp.ti (ns := [(q.1 : Int), (q.2 : Int)]) rd
    exact ⟨q.1, q.2, a, rfl, hx, hs⟩
theorem take_snoc {α : Type} {l : List α} {i : Nat} {x : α} (h : l[i]? = some x) : l.take (i + 1) = l.take i ++ [x] := by
  rw [List.take_add_one, h] <;> rfl
theorem lenN_bd {p c : Nat} (hc : c ≤ p) (hp : p ≤ 10) : 1 ≤ lenN p c ∧ lenN p c ≤ 2047 := by
  have h1 := lenN_pos hc
  have h2 : 2 ^ (p + 1) ≤ 2 ^ 11 := Nat.pow_le_pow_right (by decide) (by omega)
  have h3 : 0 < 2 ^ (p - c) := Nat.two_pow_pos _
  unfold lenN at *
  omega
def sp_Note_of_length (K : PySem.W.Frag) : Sp := fun vs H Q _ => ∃ p c : Nat, vs = [.ref (He.ga K "Note"), .int (lenN p c)] ∧ c ≤ p ∧ p ≤ 10 ∧
  ∀ a H', Ex H H' → H a = none → IsN K H' a p c → Q (.ref a) H'
/-- a length tells its note -/
theorem lenN_inj {p c p' c' : Nat} (h1 : c ≤ p) (h2 : c' ≤ p') (e : lenN p c = lenN p' c') : p = p' ∧ c = c' := by
  have lo : ∀ {p c : Nat}, c ≤ p → 2 ^ p ≤ lenN p c ∧ lenN p c < 2 ^ (p + 1) := fun {p c} h => by
    have h3 : 2 ^ (p - c) ≤ 2 ^ p := Nat.pow_le_pow_right (by decide) (by omega)
    have h4 : 0 < 2 ^ (p - c) := Nat.two_pow_pos _
    unfold lenN
    rw [Nat.pow_succ]
    omega
  have a := lo h1
  have b := lo h2
  have ep : p = p' := by
    rcases Nat.lt_trichotomy p p' with h | h | h
    · have : 2 ^ (p + 1) ≤ 2 ^ p' := Nat.pow_le_pow_right (by decide) h
      omega
    · exact h
    · have : 2 ^ (p' + 1) ≤ 2 ^ p := Nat.pow_le_pow_right (by decide) h
      omega
  subst ep
  refine ⟨rfl, ?_⟩
  have h3 : 2 ^ (p - c) ≤ 2 ^ p := Nat.pow_le_pow_right (by decide) (by omega)
  have h4 : 2 ^ (p - c') ≤ 2 ^ p := Nat.pow_le_pow_right (by decide) (by omega)
  have h5 : 2 ^ (p + 1) = 2 * 2 ^ p := by rw [Nat.pow_succ]; omega
  unfold lenN at e
  have h6 : 2 ^ (p - c) = 2 ^ (p - c') := by omega
  rcases Nat.lt_trichotomy (p - c) (p - c') with h | h | h
  · have := Nat.pow_lt_pow_right (a := 2) (by decide) h
    omega
  · omega
  · have := Nat.pow_lt_pow_right (a := 2) (by decide) h
    omega
theorem len_Note_of_length {K : PySem.W.Frag} : ∀ vs H Q E, sp_Note_of_length K vs H Q E → vs.length = 2 := by
  rintro _ H Q E ⟨_, _, rfl, _⟩
  rfl
/-- Note.of_length: cls length power dots -/
def t_Note_of_length (K : PySem.W.Frag) : TS := (tSeq (tFor (iList K (tCall (sp_all_notes K) [] E0 (tCons (tC (.int 10)) (tCons (tC (.int 10)) tNil)))) (gTup K 2 (gCons (gName 2) (gCons (gName 3) gNil))) (tIfS (tAnd (tB (tCall (sp_is_integer K) [] E0 (tCons (tVar 1) (tCons (tC (.int 1)) (tCons (tC (.int 2047)) tNil))))) (tTest (tOp rEq (tCall (sp_length_of K) [] E0 (tCons (tVar 2) (tCons (tVar 3) tNil))) (tVar 1)))) (tRet (tMakeV (He.ga K "Note") (sp_Note__init K) (tVar 0) (tCons (tVar 2) (tCons (tVar 3) tNil)))) tNext)) tNo)

theorem run_Note_of_length {K : PySem.W.Frag} {vs : List V} {H : Hp} {Q : VK} {E : XK} (h : sp_Note_of_length K vs H Q E) : t_Note_of_length K { nx := fun _ H' => Q .non H', rt := Q } (start ["cls", "length", "power", "dots"] vs) H := by
  obtain ⟨p, c, rfl, hc, hp, q⟩ := h
  unfold t_Note_of_length
  walk_at "x"
  refine ⟨10, 10, rfl, by decide, by decide, fun pa H1 ys e1 n1 h1 r1 => ?_⟩
  refine x_RefL (SqL.of h1) (for_l (xs := ys) (fun i σ H' => ∃ o1 o2, σ = [some (.ref (He.ga K "Note")), some (.int (lenN p c : Nat)), o1, o2] ∧ Ex H1 H' ∧ ∀ q ∈ (notesL 10 10).take i, lenN q.1 q.2 ≠ lenN p c)
    ⟨none, none, rfl, Ex.refl _, by simp⟩ (fun _ _ _ _ ⟨_, _, _, e, _⟩ => e.l (SqL.of h1)) ?_ ?_)
  · rintro i x σ HA hx ⟨o1, o2, rfl, eA, hno⟩
    obtain ⟨p1, c1, a, hi, rfl, ha⟩ := pair_at (r1.mono eA) hx
    have hm := notesL_mem.mp (List.mem_of_getElem? hi)
    refine x_gtup2 ha ?_
    walk_at "x"
    refine ⟨_, _, _, rfl, ?_⟩
    have hb := lenN_bd hc hp
    rw [decide_eq_true (show (1 : Int) ≤ (lenN p c : Nat) ∧ ((lenN p c : Nat) : Int) ≤ 2047 by omega)]
    walk_at "x"
    refine ⟨p1, c1, rfl, hm.2.2, hm.1, ?_⟩
    walk_at "x"
    refine b_d (fun h2 => ?_) (fun h2 => ?_)
    · walk_at "x"
      refine x_note hm.2.2 hm.1 fun b HB eB nB hB => ?_
      have e2 : Ex H HB := (e1.trans eA).trans eB
      obtain ⟨rfl, rfl⟩ := lenN_inj hm.2.2 hc (by omega)
      exact q b HB e2 (by
        cases hz : H b with
        | none => rfl
        | some o => rw [(e1.trans eA) _ _ hz] at nB; cases nB) hB
    · walk_at "x"
      refine ⟨_, _, rfl, eA, ?_⟩
      rw [take_snoc hi]
      intro q hq
      rcases List.mem_append.mp hq with hq | hq
      · exact hno q hq
      · have : q = (p1, c1) := by simpa using hq
        subst this
        show lenN p1 c1 ≠ lenN p c
        omega
  · rintro σ HA ⟨o1, o2, rfl, eA, hno⟩
    have hl := r1.len
    rw [List.length_map] at hl
    rw [hl, List.take_length] at hno
    exact (hno (p, c) (notesL_mem.mpr ⟨hp, by omega, hc⟩) rfl).elim
/-- the lengths of a row of notes -/
def lenS (ns : List (Nat × Nat)) : List Int := ns.map fun q => ((lenN q.1 q.2 : Nat) : Int)
def dNs (K : PySem.W.Frag) (ns : List (Nat × Nat)) : List D := ns.map fun q => dN K q.1 q.2
theorem note_at {K : PySem.W.Frag} {H : Hp} {ys : List V} {ps : List (Nat × Nat)} {i : Nat} {x : V} (r : RpL K H ys (dNs K ps)) (h : ys[i]? = some x) : ∃ p c a, ps[i]? = some (p, c) ∧ x = .ref a ∧ IsN K H a p c := by
  obtain ⟨d, hd, rd⟩ := r.at' h
  unfold dNs at hd
  rw [List.getElem?_map] at hd
  cases e : ps[i]? with
  | none =>
    rw [e] at hd
    cases hd
  | some q =>
    rw [e] at hd
    obtain rfl : dN K q.1 q.2 = d := Option.some.inj hd
    obtain ⟨a, hx, hs⟩ := rd.isN
    exact ⟨q.1, q.2, a, rfl, hx, hs⟩
theorem fm_at {α : Type} {β : Type} (f : α → β) : ∀ (l : List α), (List.range l.length).filterMap (fun i => l[i]?.map f) = l.map f := fun l => by
  have := fm_range (fun a => some (f a)) l.length l rfl
  rw [fm_some] at this
  refine Eq.trans (fm_congr fun i _ => ?_) this
  cases l[i]? <;> rfl
/-- [note.length for note in notes] and its like -/
theorem lcT_notes {K : PySem.W.Frag} {σ : L2.St} {H : Hp} {Q : VK} {g : TG} {te : TE} {a : Addr} {xs : List V} {ns : List (Nat × Nat)} {vs : List Nat} (f : Nat × Nat → Int) (hx : SqT K H a xs) (hr : RpL K H xs (dNs K ns)) (hz : ns.length ≤ 100000)
    (hs : ∀ (i p c : Nat) (b : Addr) (H' : Hp), ns[i]? = some (p, c) → Ex H H' → IsN K H' b p c → ∀ R : VK, (∀ H4, Ex H' H4 → R (.int (f (p, c))) H4) → g (.ref b) (wipe σ vs) H' fun σ2 H2 => wipe σ2 vs = wipe σ vs ∧ te σ2 H2 R)
    (hd : ∀ p H', Ex H H' → H p = none → H' p = some (.lst ((ns.map f).map V.int)) → Q (.ref p) H') : LcIt (Itt K a) g tYes te vs σ H Q := by
  have hl := hr.len
  unfold dNs at hl
  rw [List.length_map] at hl
  refine lcT (K := K) (fun i => ns[i]?.map fun q => D.int (f q)) hx (by omega) (fun i x H' hi e => ?_) (fun p ys H' e n h r => ?_)
  · obtain ⟨p, c, b, h1, rfl, h2⟩ := note_at (hr.mono e) hi
    rw [h1]
    exact turn_all fun R k => hs i p c b H' h1 e h2 R fun H4 e4 => k _ H4 e4 (.int _)
  · rw [hl, fm_at (fun q => D.int (f q))] at r
    have e2 : ns.map (fun q => D.int (f q)) = dI (ns.map f) := by
      unfold dI
      rw [List.map_map] <;> rfl
    rw [e2] at r
    rw [r.ints_inv] at h
    exact hd p H' e n h
def sp_missing_note (K : PySem.W.Frag) : Sp := fun vs H Q _ => ∃ (a : Addr) (xs : List V) (ns : List (Nat × Nat)) (t : Int), vs = [.ref a, .int t] ∧ SqT K H a xs ∧ RpL K H xs (dNs K ns) ∧ ns.length ≤ 1000 ∧
  (∀ b H' p c, c ≤ p → p ≤ 10 → ((lenN p c : Nat) : Int) = t - (lenS ns).sum → Ex H H' → IsN K H' b p c → Q (.ref b) H') ∧
  ((∀ p c, c ≤ p → p ≤ 10 → ((lenN p c : Nat) : Int) ≠ t - (lenS ns).sum) → ∀ H', Ex H H' → Q .non H')
theorem len_missing_note {K : PySem.W.Frag} : ∀ vs H Q E, sp_missing_note K vs H Q E → vs.length = 2 := by
  rintro _ H Q E ⟨_, _, _, _, rfl, _⟩
  rfl
/-- missing_note: notes total length power dots note -/
def t_missing_note (K : PySem.W.Frag) : TS := (tSeq (tAsg (tOp rMinus (tVar 1) (tCB (rSum K) (tCons (tLc (iTup K (tVar 0)) (gName 5) tYes (tProp (He.ga K "Note") (sp_Note_length K) [] E0 (tVar 5)) [5]) tNil))) (gName 2)) (tSeq (tFor (iRng1 (tCons (tC (.int 11)) tNil)) (gName 3) (tFor (iRng1 (tCons (tOp rPlus (tVar 3) (tC (.int 1))) tNil)) (gName 4) (tIfS (tTest (tOp rEq (tCall (sp_length_of K) [] E0 (tCons (tVar 3) (tCons (tVar 4) tNil))) (tVar 2))) (tRet (tMake (He.ga K "Note") (sp_Note__init K) [] E0 (tCons (tVar 3) (tCons (tVar 4) tNil)))) tNext))) (tRet (tC .non))))

theorem run_missing_note {K : PySem.W.Frag} {vs : List V} {H : Hp} {Q : VK} {E : XK} (h : sp_missing_note K vs H Q E) : t_missing_note K { nx := fun _ H' => Q .non H', rt := Q } (start ["notes", "total", "length", "power", "dots", "note"] vs) H := by
  obtain ⟨a, xs, ns, t, rfl, hs, hr, hn, q1, q2⟩ := h
  unfold t_missing_note
  walk_at "x"
  refine x_RefT hs (lcT_notes (fun q => ((lenN q.1 q.2 : Nat) : Int)) hs hr (by omega) (fun i p c b H' hi e hb R k => ?_) fun pl H1 e1 n1 h1 => ?_)
  · obtain ⟨dx, hb⟩ := hb
    refine ⟨rfl, ?_⟩
    walk_at "x"
    refine x_Ofc hb ⟨_, _, _, rfl, ⟨dx, hb⟩, ?_⟩
    exact k _ (Ex.refl _)
  · walk_at "x"
    refine x_sum (SqL.of h1) ?_
    have hS : (ns.map fun q => ((lenN q.1 q.2 : Nat) : Int)).sum = (lenS ns).sum := rfl
    rw [hS]
    walk_at "x"
    obtain ⟨L, hL⟩ : ∃ L : Int, L = t - (lenS ns).sum := ⟨_, rfl⟩
    rw [← hL]
    rw [← hL] at q1 q2
    refine for_r (fun i σ H' => ∃ o3 o4 o5, σ = [some (.ref a), some (.int t), some (.int L), o3, o4, o5] ∧ Ex H H' ∧ ∀ p c, c ≤ p → p < i → ((lenN p c : Nat) : Int) ≠ L) ⟨_, _, _, rfl, e1, fun p c _ h => by omega⟩ ?_ ?_
    · rintro i σ HA hi ⟨o3, o4, o5, rfl, eA, hno⟩
      rw [Int.zero_add]
      walk_at "x"
      have ei : ((i : Int) + 1).toNat = i + 1 := by omega
      rw [ei]
      refine for_r (fun j σ H' => ∃ o4, σ = [some (.ref a), some (.int t), some (.int L), some (.int i), o4, o5] ∧ Ex H H' ∧ (∀ p c, c ≤ p → p < i → ((lenN p c : Nat) : Int) ≠ L) ∧ ∀ c, c < j → ((lenN i c : Nat) : Int) ≠ L) ⟨_, rfl, eA, hno, fun c h => by omega⟩ ?_ ?_
      · rintro j σ HB hj ⟨o4, rfl, eB, hno, hno2⟩
        rw [Int.zero_add]
        walk_at "x"
        have hi : i < 11 := by omega
        refine ⟨i, j, rfl, by omega, by omega, ?_⟩
        walk_at "x"
        refine b_d (fun h2 => ?_) (fun h2 => ?_)
        · walk_at "x"
          refine x_note (by omega) (by omega) fun b HC eC nC hC => ?_
          exact q1 b HC i j (by omega) (by omega) h2 (eB.trans eC) hC
        · walk_at "x"
          refine ⟨_, rfl, eB, hno, fun c hc => ?_⟩
          by_cases e : c = j
          · subst e
            exact h2
          · exact hno2 c (by omega)
      · rintro σ HB ⟨o4, rfl, eB, hno, hno2⟩
        refine ⟨_, _, _, rfl, eB, fun p c hc hp => ?_⟩
        by_cases e : p = i
        · subst e
          exact hno2 c (by omega)
        · exact hno p c hc (by omega)
    · rintro σ HA ⟨o3, o4, o5, rfl, eA, hno⟩
      walk_at "x"
      exact q2 (fun p c hc hp => hno p c hc (by show p < 11; omega)) HA eA
end Xl

/-! rows of numbers as values (own work). -/
namespace Xl
open PySem PySem.Spec PyProof.Rows L2
def iv (l : List Nat) : List V := l.map fun n : Nat => V.int (n : Int)
theorem iv_len (l : List Nat) : (iv l).length = l.length := List.length_map _
theorem iv_at {l : List Nat} {i : Nat} {x : V} (h : (iv l)[i]? = some x) : ∃ n, l[i]? = some n ∧ x = .int (n : Int) := by
  unfold iv at h
  rw [List.getElem?_map] at h
  cases e : l[i]? with
  | none =>
    rw [e] at h
    cases h
  | some n =>
    rw [e] at h
    exact ⟨n, rfl, (Option.some.inj h).symm⟩
theorem iv_get {l : List Nat} {i n : Nat} (h : l[i]? = some n) : (iv l)[i]? = some (.int (n : Int)) := by
  unfold iv
  rw [List.getElem?_map, h] <;> rfl
def zI (l : List Nat) : List Int := l.map fun n : Nat => (n : Int)
theorem zI_iv (l : List Nat) : (zI l).map V.int = iv l := by
  unfold zI iv
  rw [List.map_map] <;> rfl
theorem zI_nil (l : List Nat) : decide (zI l = []) = decide (l = []) := by
  rw [decide_eq_decide]
  unfold zI
  exact List.map_eq_nil_iff
theorem zI_inj {l m : List Nat} (h : zI l = zI m) : l = m := by
  unfold zI at h
  exact (List.map_inj_right fun a b e => by omega).mp h
def dT (h : List Nat) : D := .tup (dI (zI h))
theorem RpL.snoc1 {K : PySem.W.Frag} {H : Hp} {α : Type} {f : α → D} {vs : List V} {l : List α} {v : V} {x : α} (h : RpL K H vs (l.map f)) (q : Rp K H v (f x)) : RpL K H (vs ++ [v]) ((l ++ [x]).map f) := by
  rw [List.map_append]
  exact h.snoc q
theorem dT_at {K : PySem.W.Frag} {H : Hp} {xs : List V} {hs : List (List Nat)} {x : V} (r : RpL K H xs (hs.map dT)) (h : x ∈ xs) : ∃ t ∈ hs, ∃ a, x = .ref a ∧ SqT K H a (iv t) := by
  obtain ⟨i, hi, rfl⟩ := List.mem_iff_getElem.mp h
  obtain ⟨d, hd, rd⟩ := r.at' (List.getElem?_eq_getElem hi)
  rw [List.getElem?_map] at hd
  cases e : hs[i]? with
  | none =>
    rw [e] at hd
    cases hd
  | some t =>
    rw [e] at hd
    obtain rfl : dT t = d := Option.some.inj hd
    obtain ⟨a, hx, ha⟩ := rd.ti
    rw [zI_iv] at ha
    exact ⟨t, List.mem_of_getElem? e, a, hx, ha⟩
theorem len_take_flat {α β : Type} (f : α → List β) (l : List α) (i : Nat) : ((l.take i).flatMap f).length ≤ (l.flatMap f).length := by
  have e : l.flatMap f = (l.take i).flatMap f ++ (l.drop i).flatMap f := by rw [← List.flatMap_append, List.take_append_drop]
  rw [e, List.length_append]
  omega
theorem flat_snoc {α β : Type} (f : α → List β) {l : List α} {i : Nat} {x : α} (h : l[i]? = some x) : (l.take (i + 1)).flatMap f = (l.take i).flatMap f ++ f x := by
  rw [take_snoc h, List.flatMap_append]
  simp
/-- a and b, the end false either way -/
theorem b_andF {c : Prop} [Decidable c] {tu : TT} {σ : L2.St} {H1 : Hp} {TQ : Bool → Hp → Prop} (P : Hp → Prop) (k : ∀ H', P H' → TQ false H') (h1 : c → ∀ TQ' : Bool → Hp → Prop, (∀ H', P H' → TQ' false H') → tu σ H1 TQ') (h2 : ¬ c → P H1) : if decide c = true then tu σ H1 TQ else TQ false H1 := b_d (fun h => h1 h TQ k) (fun h => k _ (h2 h))
end Xl

/-! t[::-1] of a tuple; enumerate(t) (own work). -/
namespace Xl
open PySem PySem.Spec PyProof.Rows L2
local macro_rules | `(tactic| walk_at "x1") => `(tactic| first
  | ((with_reducible show tVar _ _ _ _); refine x_var rfl ?_)
  | (with_reducible refine x_c ?_)
  | (with_reducible refine x_II ?_)
  | ((with_reducible refine x_sd ?_ ?_); (first | (· first | exact trivial | decide | omega | exact .inl ⟨by omega, by omega⟩ | exact .inr ⟨by omega, by omega⟩ | exact ⟨by omega, by omega⟩ | exact ⟨by decide, by decide, by decide⟩) | rotate_left))
  | (with_reducible refine x_asB ?_)
  | (with_reducible refine x_seq ?_)
  | (with_reducible refine x_asgN ?_)
  | (with_reducible refine x_gN ?_)
  | (with_reducible refine x_asg ?_)
  | (with_reducible refine x_drop ?_)
  | (with_reducible refine x_ret ?_)
  | (with_reducible refine x_retN ?_)
  | (with_reducible refine x_next ?_)
  | (with_reducible refine x_if ?_)
  | (with_reducible refine x_brk ?_)
  | (with_reducible refine x_cont ?_)
  | (with_reducible refine x_opI0 ?_)
  | (with_reducible refine x_opI ?_)
  | (with_reducible refine x_opEq ?_)
  | (with_reducible refine x_opNe ?_)
  | (with_reducible refine x_op ?_)
  | (with_reducible refine x_chain ?_)
  | (with_reducible refine x_unI ?_)
  | (with_reducible refine x_gsub ?_)
  | (with_reducible refine x_callN ?_)
  | ((with_reducible show Cn _ _ _ _ _); refine x_Cn rfl rfl ?_)
  | (with_reducible refine x_dget ?_)
  | (with_reducible refine x_din ?_)
  | (with_reducible refine x_dni ?_)
  | (with_reducible refine x_dput ?_)
  | (with_reducible refine x_lc2L ?_)
  | (with_reducible refine x_sl ?_)
  | (with_reducible refine x_noPart ?_)
  | (with_reducible refine x_part ?_)
  | (with_reducible refine x_asO ?_)
  | (with_reducible refine x_rI0 ?_)
  | (with_reducible refine x_rI ?_)
  | (with_reducible refine x_eqI ?_)
  | (with_reducible refine x_neI ?_)
  | (with_reducible refine x_eqS ?_)
  | (with_reducible refine x_neS ?_)
  | (with_reducible refine x_eqB ?_)
  | (with_reducible refine x_neB ?_)
  | (with_reducible refine x_tst ?_)
  | (with_reducible refine x_tB ?_)
  | (with_reducible refine x_and ?_)
  | (with_reducible refine x_or ?_)
  | (with_reducible refine x_not ?_)
  | (with_reducible refine x_andV ?_)
  | (with_reducible refine x_orV ?_)
  | (with_reducible refine x_notV ?_)
  | (with_reducible refine x_ifE ?_)
  | (with_reducible refine x_nilA ?_)
  | (with_reducible refine x_consA ?_)
  | (with_reducible refine x_tup ?_)
  | (with_reducible refine x_lst ?_)
  | (with_reducible refine x_call ?_)
  | (with_reducible refine x_callD ?_)
  | (with_reducible refine x_cb ?_)
  | (with_reducible refine x_min2 ?_)
  | (with_reducible refine x_max2 ?_)
  | (with_reducible refine x_par ?_)
  | (with_reducible refine x_Par ?_)
  | (with_reducible refine x_par3 ?_)
  | (with_reducible refine x_Par3 ?_)
  | ((with_reducible show tAug _ _ _ _ _ _); refine x_aug rfl ?_)
  | (with_reducible refine x_ipI ?_)
  | (with_reducible refine x_forR1 ?_)
  | (with_reducible refine x_forR2 ?_)
  | (with_reducible refine x_forL ?_)
  | (with_reducible refine x_forT ?_)
  | (with_reducible refine x_lcL ?_)
  | (with_reducible refine x_lcT ?_)
  | (with_reducible refine x_lcR1 ?_)
  | (with_reducible refine x_lcR2 ?_)
  | ((with_reducible refine x_R1 ?_ ?_); (first | (· first | decide | omega) | rotate_left))
  | ((with_reducible refine x_R2 ?_ ?_); (first | (· first | decide | omega) | rotate_left))
  | (with_reducible refine x_yes ?_)
  | (with_reducible refine b_t rfl ?_)
  | (with_reducible refine b_f rfl ?_))
local macro_rules | `(tactic| walk_at "x") => `(tactic| repeat walk_at "x1")
local macro_rules | `(tactic| walk_at "bf") => `(tactic| refine b_f (by first | exact decide_eq_false (by omega) | (simp; done) | (simp; omega)) ?_)
local macro_rules | `(tactic| walk_at "bt") => `(tactic| refine b_t (by first | exact decide_eq_true (by omega) | (simp; done) | (simp; omega)) ?_)

local macro_rules | `(tactic| walk_at "x1") => `(tactic| first
  | (with_reducible refine x_mk ?_)
  | (with_reducible refine x_mkV ?_)
  | (with_reducible refine x_cmeth ?_)
  | (with_reducible refine x_isC ?_)
  | (with_reducible refine x_prop ?_)
  | (with_reducible refine x_fld ?_)
  | (with_reducible refine x_sfld ?_)
  | (with_reducible refine x_fmtD ?_))
local macro_rules | `(tactic| walk_at "x1") => `(tactic| with_reducible refine x_revL ?_)

section
variable {prog : Program} {w : World} {A : Around} {E : Value → Shared → Prop} {s : Shared}
theorem adj_back (n : Nat) : Builtin.Slice.sliceAdjust none none (-1) (n : Int) = ((n : Int) - 1, -1) := by
  unfold Builtin.Slice.sliceAdjust
  simp
theorem places_back (n : Nat) : Builtin.Slice.slicePlaces ((n : Int) - 1) (-1) (-1) = n := by
  unfold Builtin.Slice.slicePlaces
  rw [if_neg (by decide)]
  by_cases h : n = 0
  · subst h
    decide
  · rw [if_pos (by omega)]
    have e : ((n : Int) - 1 - -1 - 1) / (- -1) + 1 = (n : Int) := by
      rw [show (- -1 : Int) = 1 from rfl, Int.ediv_one]
      omega
    rw [e, Int.toNat_natCast]
theorem applied_back {sl : Addr} {n : Nat} {vs : Value} {Q : Int × Int × Nat → Shared → Prop} (hs : s.heap.IsSliceOf sl .none .none vs) (ps : IsPart vs (some (-1))) (h : Q ((n : Int) - 1, -1, n) s) :
    wpAny (model prog w) A (Builtin.Slice.sliceApplied (.ref sl) (pure (n : Int))) Q E s := by
  obtain ⟨os, hos, hcs, hds⟩ := id hs
  unfold Builtin.Slice.sliceApplied Builtin.Slice.sliceFields
  refine wpAny_bind (wpAny_bind (wpAny_field hos hds (x := .none) rfl (wpAny_bind (wpAny_field hos hds (x := .none) rfl (wpAny_bind (wpAny_field hos hds (x := vs) rfl (wpAny_pure ?_)))))))
  refine wpAny_bind (HT.slicePart_ ps ?_)
  show wpAny _ _ (if ((-1 : Int) == 0) = true then _ else _) _ _ s
  rw [if_neg (by decide)]
  refine wpAny_bind (HT.slicePart_ .none (wpAny_bind (HT.slicePart_ .none (wpAny_bind (wpAny_pure ?_)))))
  show wpAny _ _ (match Builtin.Slice.sliceAdjust none none (-1) (n : Int) with | (lo, hi) => pure (lo, (-1 : Int), Builtin.Slice.slicePlaces lo hi (-1))) _ _ s
  rw [adj_back]
  show wpAny _ _ (pure ((n : Int) - 1, (-1 : Int), Builtin.Slice.slicePlaces ((n : Int) - 1) (-1) (-1))) _ _ s
  rw [places_back]
  exact wpAny_pure h
theorem pick_back (xs : Array Value) : ((List.range xs.size).filterMap fun (m : Nat) => xs[((xs.size : Int) - 1 + (m : Int) * (-1)).toNat]?) = xs.toList.reverse := by
  refine List.ext_getElem? fun i => ?_
  have e : ((List.range xs.size).filterMap fun (m : Nat) => xs[((xs.size : Int) - 1 + (m : Int) * (-1)).toNat]?) = (List.range xs.size).map fun m => xs.toList.getD (xs.size - 1 - m) Value.none := by
    rw [← List.filterMap_eq_map]
    refine fm_congr fun m hm => ?_
    have hm := List.mem_range.mp hm
    have e1 : ((xs.size : Int) - 1 + (m : Int) * (-1)).toNat = xs.size - 1 - m := by omega
    rw [e1]
    have h2 : xs.size - 1 - m < xs.size := by omega
    show xs[xs.size - 1 - m]? = some (xs.toList.getD (xs.size - 1 - m) Value.none)
    rw [Array.getElem?_eq_getElem h2, List.getD_eq_getElem?_getD, List.getElem?_eq_getElem (by rw [Array.length_toList]; exact h2)]
    simp
  rw [e, List.getElem?_map]
  by_cases hi : i < xs.size
  · rw [List.getElem?_range hi, List.getElem?_reverse (by rw [Array.length_toList]; exact hi), Array.length_toList]
    have h2 : xs.size - 1 - i < xs.size := by omega
    show some (xs.toList.getD (xs.size - 1 - i) Value.none) = _
    rw [List.getD_eq_getElem?_getD, List.getElem?_eq_getElem (by rw [Array.length_toList]; exact h2)] <;> rfl
  · rw [List.getElem?_eq_none (by rw [List.length_range]; omega), List.getElem?_eq_none (by rw [List.length_reverse, Array.length_toList]; omega)] <;> rfl
theorem getItem_back {t sl : Addr} {items : Array Value} {vs : Value} {Q : Value → Shared → Prop} (ht : IsTup s.heap t items) (hs : s.heap.IsSliceOf sl .none .none vs) (ps : IsPart vs (some (-1)))
    (h : Q (.ref s.heap.objs.size) { s with heap := s.heap.push { cls := .type "tuple", data := .seq items.toList.reverse.toArray } }) (hsz : items.size ≤ sizeLine) : wpAny (model prog w) A (getItem (.ref t) (.ref sl)) Q E s := by
  obtain ⟨os, hos, hcs, hds⟩ := id hs
  have hTs : s.TypeIs (.ref sl) "slice" := ⟨os, hos, hcs⟩
  have fits : sizeOk (.seq items.toList.reverse.toArray) := by
    show items.toList.reverse.toArray.size ≤ sizeLine
    rw [List.size_toArray, List.length_reverse, Array.length_toList]
    exact hsz
  unfold getItem
  try with_reducible refine wpAny_holding ?_
  first | refine wpAny_bind (wpAny_pure ?_) | skip
  refine wpAny_bind (wpAny_sequenceKey ht.typeIs (by decide) ?_)
  refine wpAny_bind (wpAny_callSpecial?_slot (name := Str.ofString "__getitem__") ht.typeIs PyProof.Rows.slot_tuple_getitem
    (wpAny_call_entry PyProof.Rows.slot_tuple_getitem ht.typeIs PyProof.Rows.entry_tuple_getitem ?_ (PyProof.Rows.args_tuple_getitem _ _)))
  show wpAny _ _ (Builtin.Tuple.tupleItemsOf (.ref t) >>= _) _ _ s
  refine wpAny_bind (PyProof.Rows.tupleItemsOf_ ht ?_)
  refine wpAny_bind (wpAny_typeOf hTs ?_)
  rw [if_pos (by decide)]
  refine wpAny_bind (applied_back (n := items.size) hs ps ?_)
  show wpAny _ _ (if (((items.size : Int) - 1) == 0 && (-1 : Int) == 1 && items.size == items.size) = true then _ else _) _ _ s
  rw [if_neg (by simp)]
  have e := pick_back items
  rw [e]
  first
    | exact wpAny_bind (m := Builtin.Tuple.tupleExact _) (wpAny_newObj_type (wpAny_pure ⟨_, rfl, wpAny_pure h⟩) fits)
    | exact wpAny_bind (wpAny_bind (m := Builtin.Tuple.tupleExact _) (wpAny_newObj_type (wpAny_pure (wpAny_pure ⟨_, rfl, wpAny_pure h⟩)) fits))
    | exact wpAny_bind (m := Builtin.Tuple.tupleExact _) (wpAny_newObj_type (wpAny_bind (wpAny_pure (wpAny_pure ⟨_, rfl, wpAny_pure h⟩))) fits)
    | exact wpAny_bind (wpAny_bind (m := Builtin.Tuple.tupleExact _) (wpAny_newObj_type (wpAny_pure ⟨_, rfl, wpAny_pure h⟩) fits))
end
/-- t[::-1] -/
def RevT (K : PySem.W.Frag) (x : V) (H : Hp) (Q : VK) : Prop := ∃ a xs, x = .ref a ∧ SqT K H a xs ∧ ∀ p, H p = none → Q (.ref p) (upd H p (.tup xs.reverse))
def tRevT (K : PySem.W.Frag) (te : TE) : TE := fun σ H Q => te σ H fun x H1 => RevT K x H1 Q
theorem pe_revT {X : Cx} {e : Expr} {te : TE} {k : Nat} {p1 p2 p3 pos : Pos} (he : PE X e te) : PE X (.Subscript e (.Slice none none (some (.UnaryOp .USub (.Constant (.int 1) k p1) p2)) p3) pos) (tRevT X.K te) := by
  refine ⟨fun pins s σ H Q I h => ?_⟩
  refine Subscript_ (thn (he.run pins s σ H _ I h) fun v s1 ⟨x, H1, I1, r1, a, xs, ex, hx, q⟩ => ?_)
  subst ex
  cases r1
  have hst : PO X (some (.UnaryOp .USub (.Constant (.int 1) k p1) p2)) (tPart (tUn (rU fun i => .int (-i)) (tC (.int 1)))) := po_some (pe_un un_neg pe_int)
  refine wpAny_Slice (thn (po_none.run pins s1 σ H1 (fun o H2 => o = none ∧ H2 = H1) I1 ⟨rfl, rfl⟩) fun vl s2 ⟨l, H2, I2, pl, el, e2⟩ => ?_)
  subst el e2
  refine thn (po_none.run pins s2 σ H2 (fun o H3 => o = none ∧ H3 = H2) I2 ⟨rfl, rfl⟩) fun vu s3 ⟨u, H3, I3, pu, eu, e3⟩ => ?_
  subst eu e3
  refine thn (hst.run pins s3 σ H3 (fun o H4 => o = some (-1) ∧ H4 = H3) I3 ⟨1, rfl, -1, rfl, rfl, rfl⟩) fun vs s4 ⟨o, H4, I4, ps, eo, e4⟩ => ?_
  subst eo e4
  cases pl
  cases pu
  have I5 : Inv X pins σ H4 { s4 with heap := s4.heap.push { cls := .type "slice", data := .fields #[.none, .none, vs] } } := I4.kept (t' := s4.toks) fun b ob q => Heap.get?_push_of_some _ q
  obtain ⟨its, r, ht, hz⟩ := I5.tuple hx
  have hlen := r.length
  show wpAny (model X.prog X.w) X.A (subscriptTail e (.Slice none none (some (.UnaryOp .USub (.Constant (.int 1) k p1) p2)) p3) (.ref a) (.ref s4.heap.objs.size)) (EP X pins σ Q) X.xe { s4 with heap := s4.heap.push { cls := .type "slice", data := .fields #[.none, .none, vs] } }
  refine tail_any (ops := [.ref a, .ref s4.heap.objs.size]) ht.typeIs (PyProof.Rows.slot_tuple_getitem.lookup) ?_ (by with_unfolding_all rfl)
  refine getItem_back ht (Heap.IsSliceOf.new _ .none .none vs) ps ?_ (by rw [List.size_toArray]; omega)
  refine ⟨.ref _, _, I5.laid (t' := s4.toks) (o := .tup xs.reverse) (fun b ob q => Heap.get?_push_of_some _ q) (Nat.le_refl _) ?_, rfl, q _ (I5.hok.fresh (Nat.le_refl _))⟩
  exact ⟨by rw [List.length_reverse]; exact hz, _, r.reverse, IsTup.new _ _⟩
theorem x_RevT {K : PySem.W.Frag} {H : Hp} {Q : VK} {a : Addr} {xs : List V} (h : SqT K H a xs) (q : ∀ p H1, H p = none → Ex H H1 → H1 p = some (.tup xs.reverse) → Q (.ref p) H1) : RevT K (.ref a) H Q := ⟨a, xs, rfl, h, fun p hp => q p _ hp (Ex.new hp) upd_same⟩
/-! ### enumerate(t) -/
abbrev enO (N : Addr) : Obj := { cls := .type "enumerate", data := .fields #[.none, .bool false, .ref N, rawInt 0, .none, .none] }
abbrev tiO (t : Addr) : Obj := { cls := .type "tuple_iterator", data := .fields #[.ref t, .int 0 0] }
theorem meets_enT (t : Addr) (items : Array Value) :
    Meets (Builtin.«enumerate.__new__» ⟨[.type "enumerate", .ref t], []⟩) (fun _ R s => s.heap.IsTuple t items ∧
      R (.ok (.ret (.ref (s.heap.push (tiO t)).objs.size))) { s with heap := (s.heap.push (tiO t)).push (enO s.heap.objs.size) }) :=
  .of_wp fun prog w A R s h => by
    obtain ⟨hp, g, d, tk, os⟩ := s
    obtain ⟨hl, h⟩ := h
    have hL : Heap.IsTuple (Shared.heap ⟨hp, g, d, tk, os⟩) t items := hl
    obtain ⟨⟨c0, dct, dt, sl⟩, hl0, hc0, n, hd0⟩ := hl
    replace hc0 : c0 = .type "tuple" := hc0
    replace hd0 : dt = .seq items n := hd0
    subst hc0 hd0
    have hsub := sub_enumerate
    wp_walk using AutoSeq1.wpAny_loadPart' hl0
    refine wpAny_stack_any fun st => wpAny_pure ?_
    split
    · rename_i c _ _ _ _ _
      cases (c == Value.type "enumerate")
      · wp_walk using AutoSeq1.wpAny_loadPart' hl0, wpAny_pyIter_tuple hL
        exact ⟨_, rfl, h⟩
      · wp_walk using AutoSeq1.wpAny_loadPart' hl0, wpAny_pyIter_tuple hL
        exact ⟨_, rfl, h⟩
    · wp_walk using AutoSeq1.wpAny_loadPart' hl0, wpAny_pyIter_tuple hL
      exact ⟨_, rfl, h⟩
theorem call_enT {prog : Program} {w : World} {A : Around} {E : Value → Shared → Prop} {s : Shared} {t : Addr} {items : Array Value} {Q : Value → Shared → Prop} (ht : s.heap.IsTuple t items)
    (h : ∀ h', IsEnum h' (s.heap.objs.size + 1) s.heap.objs.size 0 .none → h'.IsTupleIter s.heap.objs.size t 0 → (∀ b o, s.heap.get? b = some o → h'.get? b = some o) → Q (.ref (s.heap.objs.size + 1)) { s with heap := h' }) :
    wpAny (model prog w) A (call (.type "enumerate") [.ref t]) Q E s := by
  refine callType_new F.called_enumerate (by decide) (F.typeCall_enumerate_1 _) (F.newCall_enumerate_1 _) (fun obj => F.args_object_init_2 obj _) F.entry_enumerate_new (meets_enT t items) ⟨ht, ?_⟩
  have hz : (s.heap.push (tiO t)).objs.size = s.heap.objs.size + 1 := Heap.size_push ..
  show _ ∧ _
  rw [hz]
  have he : IsEnum ((s.heap.push (tiO t)).push (enO s.heap.objs.size)) (s.heap.objs.size + 1) s.heap.objs.size 0 .none := by
    have := Heap.get?_push_size (s.heap.push (tiO t)) (o := enO s.heap.objs.size) rfl
    rw [hz] at this
    exact this
  exact ⟨⟨_, he, rfl⟩, h _ he ⟨_, Heap.get?_push_of_some _ (Heap.get?_push_size _ rfl), rfl, rfl⟩ fun b o x => Heap.get?_push_of_some _ (Heap.get?_push_of_some _ x)⟩
def IteT (K : PySem.W.Frag) (a : Addr) : It :=
  ⟨fun i H => ∃ (xs : List V) (x : V), SqT K H a xs ∧ xs[i]? = some x, fun i H v H' => ∃ T x, v = .ref T ∧ H T = none ∧ H' = upd H T (.tup [.int (i : Nat), x]) ∧ ∀ xs, SqT K H a xs → xs[i]? = some x, fun i H => ∃ xs : List V, SqT K H a xs ∧ i = xs.length⟩
theorem turn_enT {P : Program} {w : World} {K : PySem.W.Frag} {elts : List Expr} {kk : Nat} {tpos : Pos} (a e it : Addr) :
    Turn P w K (.Tuple elts kk tpos) (IteT K a) [e, it] e (fun i h => (∃ old, IsEnum h e it ((i : Nat) : Int) old) ∧ h.IsTupleIter it a i ∧ e ≠ it ∧ a ≠ it ∧ a ≠ e) where
  mem := by simp
  obj := fun i h ⟨⟨old, he⟩, ⟨o, ho, hc, hd⟩, _⟩ b hb => by
    simp only [List.mem_cons, List.not_mem_nil, or_false] at hb
    rcases hb with z | z <;> rw [z]
    · exact ⟨_, he, fun v q => nomatch q⟩
    · exact ⟨o, ho, fun v q => by rw [hd] at q; cases q⟩
  keep := fun i h h' ⟨⟨old, he⟩, hi, hne⟩ k => ⟨⟨old, k e (by simp) _ he⟩, hi.at fun o q => k it (by simp) o q, hne⟩
  item := by
    intro X hP hw hK hc i pins s σ H E I hf st hg
    subst hP hw hK
    obtain ⟨⟨old, he⟩, hit, hne, hai, hae⟩ := st
    obtain ⟨xs, x, hq, hx⟩ := hg
    obtain ⟨its, rv, p, hz⟩ := I.tuple hq
    obtain ⟨u, hu, ru⟩ := rv.get hx
    have hd1 : X.A.in1.handled = none := I.ok.hd hc
    have hel : e < s.heap.objs.size := Heap.lt_size he
    have hil : it < s.heap.objs.size := by obtain ⟨_, q, _⟩ := hit; exact Heap.lt_size q
    have L1 : i < its.toArray.size := by
      rw [List.size_toArray, ← rv.length]
      exact (List.getElem?_eq_some_iff.mp hx).1
    refine wpAny_pyNext_enum_itemC (i := i) (Draws.tuple (A := X.A.in1) hd1 it a hai its.toArray) he ⟨hit, p⟩ L1 hne (by simp; exact ⟨hne, fun q => hae q.symm⟩) fun u1 h' tk hP ho hs' hT hsz hk => ?_
    have w1 : u = u1 := by
      rw [List.getElem?_toArray, hu] at hP
      exact Option.some.inj hP
    subst w1
    refine ⟨_, rfl, wpAny_letOwnedTupleGo_enum (s := { s with heap := h', toks := tk + 1 }) ho fun h'' he' sb => ?_⟩
    have hT2 : h''.get? s.heap.objs.size = some { cls := .type "tuple", data := .seq #[.int i tk, u] } := (sb.2 _ (Nat.ne_of_gt hel)).trans hT
    have new : ObjOk X.prog X.w (upd H s.heap.objs.size (.tup [.int (i : Nat), x])) h'' s.heap.objs.size (.tup [.int (i : Nat), x]) :=
      ⟨by show 2 ≤ sizeLine; rw [sizeLine_eq]; decide, [.int i tk, u], .cons ⟨_, rfl⟩ (.cons ru .nil), ⟨_, hT2, rfl, _, rfl⟩⟩
    have I1 : Inv X pins σ (upd H s.heap.objs.size (.tup [.int (i : Nat), x])) { s with heap := h'', toks := tk + 1 } :=
      I.turnedNew (ch := [e, it]) (fun b ob hb q => (sb.2 b (fun z => hb (by simp [z]))).trans (hk b ob (fun z => hb (by simp [z])) (fun z => hb (by simp [z])) q)) hf (Nat.le_refl _) new
    refine ⟨.ref s.heap.objs.size, _, I1, rfl, ⟨_, x, rfl, I.hok.fresh (Nat.le_refl _), rfl, fun ys hy => by rw [I.tuple_inj hy hq]; exact hx⟩, ⟨⟨u, ?_⟩, hs'.1.at fun o q => (sb.2 it (Ne.symm hne)).trans q, hne, hai, hae⟩, fun b hb => ?_⟩
    · have e1 : ((i + 1 : Nat) : Int) = (i : Int) + 1 := by omega
      rw [e1]
      exact he'
    · have hb' : b < s.heap.objs.size := by
        simp only [List.mem_cons, List.not_mem_nil, or_false] at hb
        rcases hb with z | z <;> rw [z]
        · exact hel
        · exact hil
      rw [upd_ne (Nat.ne_of_lt hb')]
      exact (hf b hb).1
  done := by
    intro X hP hw hK hc i pins s σ H E I hf st hg
    subst hP hw hK
    obtain ⟨⟨old, he⟩, hit, hne, hai, hae⟩ := st
    obtain ⟨xs, hq, hx⟩ := hg
    obtain ⟨its, rv, p, hz⟩ := I.tuple hq
    have hd1 : X.A.in1.handled = none := I.ok.hd hc
    obtain ⟨f0, f1, f2, f3, f4, f5⟩ := hf it (by simp)
    have e2 : i = its.toArray.size := by rw [List.size_toArray, ← rv.length]; exact hx
    have hit2 : s.heap.IsTupleIter it a its.toArray.size := by rw [← e2]; exact hit
    exact wpAny_pyNext_enum_endD (Draws.tuple (A := X.A.in1) hd1 it a hai its.toArray) he ⟨hit2, p⟩ fun h' eb => ⟨rfl, I.turned (t' := s.toks) (fun b o hb q => eb b o hb q) f0 f1 f3 f4 f5⟩
  self := fun A i s Q E st h => let ⟨⟨_, he⟩, _⟩ := st; wpAny_pyIter_enum he h
def EnT (K : PySem.W.Frag) (vs : List V) (H : Hp) (k : Addr → Prop) : Prop := ∃ a xs, vs = [.ref a] ∧ SqT K H a xs ∧ k a
def iEnumT (K : PySem.W.Frag) (ta : TA) : TI := fun σ H R => ta σ H fun vs H1 => EnT K vs H1 fun a => R (IteT K a) H1
theorem pi_enumT {X : Cx} {e : Expr} {ta : TA} {p pos tpos : Pos} {elts : List Expr} {kk : Nat} (hg : Gl X "enumerate") (hm : X.mg "enumerate" = none) (ha : PA X [e] ta) (hs : starEach [e] X.env = [(false, eval e X.env)] := by rfl) :
    PI X (.Tuple elts kk tpos) (.Call (.Name "enumerate" p) [e] [] pos) (iEnumT X.K ta) := by
  refine ⟨fun pins s σ H R I h => ?_⟩
  refine Call_ (ld_blt I hg hm boot_enumerate (PyProof.Rows.callWith_type1 (thn (ha.run pos pins s σ H _ I h) fun us s1 ⟨vs, H1, I1, r1, a, xs, ex, hq, q⟩ => ?_) hs rfl))
  subst ex
  obtain ⟨u, rfl, ru⟩ := r1.one
  cases ru
  obtain ⟨its, rv, p', hz⟩ := I1.tuple hq
  obtain ⟨o1, ho1, _⟩ := id p'
  have hal : a < s1.heap.objs.size := Heap.lt_size ho1
  refine call_enT (show s1.heap.IsTuple a its.toArray from p') fun h' he hit hk => wpAny_pyIter_enum he ?_
  have I2 : Inv X pins σ H1 { s1 with heap := h' } := I1.kept (t' := s1.toks) hk
  refine ⟨s1.heap.objs.size + 1, [s1.heap.objs.size + 1, s1.heap.objs.size], _, _, H1, rfl, I2, turn_enT a (s1.heap.objs.size + 1) s1.heap.objs.size, ⟨⟨.none, he⟩, hit, Nat.succ_ne_self _, Nat.ne_of_lt hal, Nat.ne_of_lt (Nat.lt_succ_of_lt hal)⟩, fun b hb => ?_, q⟩
  have hle : s1.heap.objs.size ≤ b := by
    simp only [List.mem_cons, List.not_mem_nil, or_false] at hb
    rcases hb with z | z <;> rw [z] <;> first | exact Nat.le_refl _ | exact Nat.le_add_right _ _
  exact I1.fpOk hle (I1.hok.fresh hle)
/-! ### l[i] += n, l a list and i from 0 -/
def rGetL (K : PySem.W.Frag) : V → V → Hp → VK → Prop := fun x y H Q => ∃ p xs i v, x = .ref p ∧ y = .int i ∧ SqL K H p xs ∧ 0 ≤ i ∧ xs[i.toNat]? = some v ∧ Q v H
theorem get_listN {X : Cx} : PGet X (rGetL X.K) := by
  intro pins s σ H x y v u Q I rx ry h
  obtain ⟨p, xs, i, z, rfl, rfl, hq, h0, he, q⟩ := h
  cases rx
  obtain ⟨t, rfl⟩ := ry
  obtain ⟨its, r, pl, hz⟩ := I.list hq
  obtain ⟨w, ew, rw'⟩ := r.get he
  have hl := (List.getElem?_eq_some_iff.mp he).1
  have hn := line63
  exact wpAny_getItem_list pl.isList h0 (by omega) (by simpa using ew) ⟨z, H, I, rw', q⟩
def GetL (K : PySem.W.Frag) (x y : V) (H : Hp) (Q : VK) : Prop := rGetL K x y H Q
theorem x_GetL {K : PySem.W.Frag} {H : Hp} {Q : VK} {p : Addr} {xs : List V} {i : Int} {v : V} (h : SqL K H p xs) (h0 : 0 ≤ i) (hv : xs[i.toNat]? = some v) (q : Q v H) : rGetL K (.ref p) (.int i) H Q := ⟨p, xs, i, v, rfl, rfl, h, h0, hv, q⟩
theorem x_augS {to ti te : TE} {tget : V → V → Hp → VK → Prop} {tip : TIp} {tset : TSet} {σ : L2.St} {H : Hp} {nx bk ct : L2.St → Hp → Prop} {rt : VK}
    (h : to σ H fun o H1 => ti σ H1 fun i H2 => tget o i H2 fun x H3 => te σ H3 fun y H4 => tip x y H4 fun z H5 => tset o i z H5 fun H6 => nx σ H6) : tAugS to ti te tget tip tset ⟨nx, rt, bk, ct⟩ σ H := h
end Xl

/-! more steps: list * int, l.pop(), slices to the last but one, zip of two tuples in a comprehension, loops over enumerate (own work). -/
namespace Xl
open PySem PySem.Spec PyProof.Rows L2
local macro_rules | `(tactic| walk_at "x1") => `(tactic| first
  | ((with_reducible show tVar _ _ _ _); refine x_var rfl ?_)
  | (with_reducible refine x_c ?_)
  | (with_reducible refine x_II ?_)
  | ((with_reducible refine x_sd ?_ ?_); (first | (· first | exact trivial | decide | omega | exact .inl ⟨by omega, by omega⟩ | exact .inr ⟨by omega, by omega⟩ | exact ⟨by omega, by omega⟩ | exact ⟨by decide, by decide, by decide⟩) | rotate_left))
  | (with_reducible refine x_asB ?_)
  | (with_reducible refine x_seq ?_)
  | (with_reducible refine x_asgN ?_)
  | (with_reducible refine x_gN ?_)
  | (with_reducible refine x_asg ?_)
  | (with_reducible refine x_drop ?_)
  | (with_reducible refine x_ret ?_)
  | (with_reducible refine x_retN ?_)
  | (with_reducible refine x_next ?_)
  | (with_reducible refine x_if ?_)
  | (with_reducible refine x_brk ?_)
  | (with_reducible refine x_cont ?_)
  | (with_reducible refine x_opI0 ?_)
  | (with_reducible refine x_opI ?_)
  | (with_reducible refine x_opEq ?_)
  | (with_reducible refine x_opNe ?_)
  | (with_reducible refine x_op ?_)
  | (with_reducible refine x_chain ?_)
  | (with_reducible refine x_unI ?_)
  | (with_reducible refine x_gsub ?_)
  | (with_reducible refine x_callN ?_)
  | ((with_reducible show Cn _ _ _ _ _); refine x_Cn rfl rfl ?_)
  | (with_reducible refine x_dget ?_)
  | (with_reducible refine x_din ?_)
  | (with_reducible refine x_dni ?_)
  | (with_reducible refine x_dput ?_)
  | (with_reducible refine x_lc2L ?_)
  | (with_reducible refine x_sl ?_)
  | (with_reducible refine x_noPart ?_)
  | (with_reducible refine x_part ?_)
  | (with_reducible refine x_asO ?_)
  | (with_reducible refine x_rI0 ?_)
  | (with_reducible refine x_rI ?_)
  | (with_reducible refine x_eqI ?_)
  | (with_reducible refine x_neI ?_)
  | (with_reducible refine x_eqS ?_)
  | (with_reducible refine x_neS ?_)
  | (with_reducible refine x_eqB ?_)
  | (with_reducible refine x_neB ?_)
  | (with_reducible refine x_tst ?_)
  | (with_reducible refine x_tB ?_)
  | (with_reducible refine x_and ?_)
  | (with_reducible refine x_or ?_)
  | (with_reducible refine x_not ?_)
  | (with_reducible refine x_andV ?_)
  | (with_reducible refine x_orV ?_)
  | (with_reducible refine x_notV ?_)
  | (with_reducible refine x_ifE ?_)
  | (with_reducible refine x_nilA ?_)
  | (with_reducible refine x_consA ?_)
  | (with_reducible refine x_tup ?_)
  | (with_reducible refine x_lst ?_)
  | (with_reducible refine x_call ?_)
  | (with_reducible refine x_callD ?_)
  | (with_reducible refine x_cb ?_)
  | (with_reducible refine x_min2 ?_)
  | (with_reducible refine x_max2 ?_)
  | (with_reducible refine x_par ?_)
  | (with_reducible refine x_Par ?_)
  | (with_reducible refine x_par3 ?_)
  | (with_reducible refine x_Par3 ?_)
  | ((with_reducible show tAug _ _ _ _ _ _); refine x_aug rfl ?_)
  | (with_reducible refine x_ipI ?_)
  | (with_reducible refine x_forR1 ?_)
  | (with_reducible refine x_forR2 ?_)
  | (with_reducible refine x_forL ?_)
  | (with_reducible refine x_forT ?_)
  | (with_reducible refine x_lcL ?_)
  | (with_reducible refine x_lcT ?_)
  | (with_reducible refine x_lcR1 ?_)
  | (with_reducible refine x_lcR2 ?_)
  | ((with_reducible refine x_R1 ?_ ?_); (first | (· first | decide | omega) | rotate_left))
  | ((with_reducible refine x_R2 ?_ ?_); (first | (· first | decide | omega) | rotate_left))
  | (with_reducible refine x_yes ?_)
  | (with_reducible refine b_t rfl ?_)
  | (with_reducible refine b_f rfl ?_))
local macro_rules | `(tactic| walk_at "x") => `(tactic| repeat walk_at "x1")
local macro_rules | `(tactic| walk_at "bf") => `(tactic| refine b_f (by first | exact decide_eq_false (by omega) | (simp; done) | (simp; omega)) ?_)
local macro_rules | `(tactic| walk_at "bt") => `(tactic| refine b_t (by first | exact decide_eq_true (by omega) | (simp; done) | (simp; omega)) ?_)

local macro_rules | `(tactic| walk_at "x1") => `(tactic| first
  | (with_reducible refine x_mk ?_)
  | (with_reducible refine x_mkV ?_)
  | (with_reducible refine x_cmeth ?_)
  | (with_reducible refine x_isC ?_)
  | (with_reducible refine x_prop ?_)
  | (with_reducible refine x_fld ?_)
  | (with_reducible refine x_sfld ?_)
  | (with_reducible refine x_fmtD ?_))
local macro_rules | `(tactic| walk_at "x1") => `(tactic| with_reducible refine x_revL ?_)

section
variable {K : PySem.W.Frag} {σ : L2.St} {H : Hp} {Q : VK} {te : TE} {g : TG} {t : TS} {al : TA} {De : Ends} {tt : TT}
theorem x_rRep {l : Addr} {xs : List V} {k : Int} (h : H l = some (.lst xs)) (hk : 0 ≤ k ∧ k ≤ 100000) (hz : xs.length * k.toNat ≤ 100000) (q : ∀ p H1, H p = none → Ex H H1 → H1 p = some (.lst (List.replicate k.toNat xs).flatten) → Q (.ref p) H1) : rRep (.ref l) (.int k) H Q :=
  ⟨l, k, xs, rfl, rfl, h, by omega, by omega, big_le hz, fun p hp => q p _ hp (Ex.new hp) upd_same⟩
theorem rep_one (n : Nat) (v : V) : (List.replicate n [v]).flatten = List.replicate n v := by
  induction n with
  | zero => rfl
  | succ n ih => rw [List.replicate_succ, List.flatten_cons, ih, List.replicate_succ] <;> rfl
theorem x_pop {i : Nat} {l : Addr} {xs : List V} {y : V} (hσ : σ[i]? = some (some (.ref l))) (hl : H l = some (.lst xs)) (hy : xs[xs.length - 1]? = some y) (q : Q y (upd H l (.lst xs.dropLast))) : tBM0 K "list" rPop (tVar i) σ H Q :=
  ⟨_, hσ, .inl ⟨rfl, _, SqL.of hl⟩, l, xs, y, rfl, rfl, hl, hy, q⟩
theorem cut_init (xs : List V) : cutV xs none (some (-1)) = xs.dropLast := by
  have e : HT.sIx xs.length xs.length (some (-1)) = xs.length - 1 := by
    show (if (-1 : Int) < 0 then ((-1 : Int) + (xs.length : Int)).toNat else min (-1 : Int).toNat xs.length) = _
    rw [if_pos (by decide)]
    omega
  unfold cutV
  rw [HT.sIx_none, e, List.drop_zero, Nat.sub_zero, ← List.dropLast_eq_take]
/-! zip of two tuples in a comprehension -/
def ZA (K : PySem.W.Frag) (vs : List V) (H : Hp) (k : It → Prop) : Prop := ∃ a b xs ys, vs = [.ref a, .ref b] ∧ ((SqL K H a xs ∧ SqL K H b ys ∧ k (Itz K a b)) ∨ (SqT K H a xs ∧ SqT K H b ys ∧ k (RZ.ItzT K a b)))
theorem x_lcZ {vs : List Nat} (h : al σ H fun ws H1 => ZA K ws H1 fun J => LcIt J g tt te vs σ H1 Q) : tLc (RZ.iZipA K al) g tt te vs σ H Q := h
theorem x_forZ (h : al σ H fun ws H1 => ZA K ws H1 fun J => ForIt J g t De σ H1) : tFor (RZ.iZipA K al) g t De σ H := h
theorem x_ZAT {a b : Addr} {xs ys : List V} {k : It → Prop} (h1 : SqT K H a xs) (h2 : SqT K H b ys) (q : k (RZ.ItzT K a b)) : ZA K [.ref a, .ref b] H k := ⟨a, b, xs, ys, rfl, .inr ⟨h1, h2, q⟩⟩
theorem x_ZAL {a b : Addr} {xs ys : List V} {k : It → Prop} (h1 : SqL K H a xs) (h2 : SqL K H b ys) (q : k (Itz K a b)) : ZA K [.ref a, .ref b] H k := ⟨a, b, xs, ys, rfl, .inl ⟨h1, h2, q⟩⟩
theorem lcZT {a b : Addr} {xs ys : List V} {vs : List Nat} (n : Nat) (f : Nat → D) (hx : SqT K H a xs) (hy : SqT K H b ys) (hn : n = min xs.length ys.length) (hz : n ≤ 100000)
    (hs : ∀ (i : Nat) (x y : V) (T : Addr) (H' : Hp), xs[i]? = some x → ys[i]? = some y → Ex H H' → H' T = some (.tup [x, y]) → ∀ R : VK, (∀ v H4, Ex H' H4 → Rp K H4 v (f i) → R v H4) → g (.ref T) (wipe σ vs) H' fun σ2 H2 => wipe σ2 vs = wipe σ vs ∧ te σ2 H2 R)
    (hd : ∀ p zs H', Ex H H' → H p = none → H' p = some (.lst zs) → RpL K H' zs ((List.range n).map f) → Q (.ref p) H') : LcIt (RZ.ItzT K a b) g tYes te vs σ H Q := fun D1 hD => by
  refine ⟨fun i m H' => m = n - i ∧ i ≤ n ∧ Ex H H' ∧ ∃ acc, H' D1 = some (.lst acc) ∧ RpL K H' acc ((List.range i).map f), ⟨n, rfl, Nat.zero_le _, Ex.new hD, [], upd_same, .nil⟩, ?_⟩
  rintro i m H' ⟨rfl, hi, e, acc, hA, hR⟩
  by_cases hlt : i < n
  · have hx' : xs[i]? = some xs[i] := List.getElem?_eq_getElem (by omega)
    have hy' : ys[i]? = some ys[i] := List.getElem?_eq_getElem (by omega)
    refine .inr ⟨⟨xs, ys, _, _, e.t hx, e.t hy, hx', hy'⟩, fun H2 => Ex H H2 ∧ ∃ acc, H2 D1 = some (.lst acc) ∧ RpL K H2 acc ((List.range (i + 1)).map f), fun H2 ⟨e2, acc2, h2, r2⟩ => ⟨n - (i + 1), by omega, rfl, by omega, e2, acc2, h2, r2⟩, ?_⟩
    rintro v H2 ⟨T, x', y', rfl, hT, rfl, f1, f2⟩
    have eT : Ex H' (upd H' T (.tup [x', y'])) := Ex.new hT
    have h := hs i x' y' T _ (f1 xs (e.t hx)) (f2 ys (e.t hy)) (e.trans eT) upd_same (fun y H4 => ∃ acc, H4 D1 = some (.lst acc) ∧ acc.length < sizeLine ∧ (Ex H (upd H4 D1 (.lst (acc ++ [y]))) ∧ ∃ acc', upd H4 D1 (.lst (acc ++ [y])) D1 = some (.lst acc') ∧ RpL K (upd H4 D1 (.lst (acc ++ [y]))) acc' ((List.range (i + 1)).map f))) (fun y H4 e4 r4 => by
      have hA4 := e4 _ _ (eT _ _ hA)
      refine ⟨acc, hA4, big_lt ?_, ((e.trans eT).trans e4).mut hD, acc ++ [y], upd_same, ?_⟩
      · have := hR.len
        rw [List.length_map, List.length_range] at this
        omega
      · rw [List.range_succ, List.map_append]
        exact (((hR.mono eT).mono e4).im (Im.set hA4)).snoc (r4.im (Im.set hA4)))
    simp only [tYes_eq]
    exact h
  · have ei : i = n := by omega
    subst ei
    exact .inl ⟨⟨xs, ys, e.t hx, e.t hy, by omega⟩, hd D1 acc H' e hD hA hR⟩
/-! for (i, x) in enumerate(t) -/
theorem x_forE (h : al σ H fun ws H1 => EnT K ws H1 fun a => ForIt (IteT K a) g t De σ H1) : tFor (iEnumT K al) g t De σ H := h
theorem x_EnT {a : Addr} {xs : List V} {k : Addr → Prop} (h : SqT K H a xs) (q : k a) : EnT K [.ref a] H k := ⟨a, xs, rfl, h, q⟩
theorem for_en {a : Addr} {xs : List V} {nx bk ct : L2.St → Hp → Prop} {rt : VK} (Pv : Nat → L2.St → Hp → Prop) (h0 : Pv 0 σ H) (hq : ∀ i σ H, Pv i σ H → SqT K H a xs)
    (hs : ∀ (i : Nat) (x : V) (T : Addr) (σ : L2.St) (H H' : Hp), xs[i]? = some x → Pv i σ H → Ex H H' → H' T = some (.tup [.int (i : Nat), x]) → g (.ref T) σ H' fun σ2 H2 => t ⟨Pv (i + 1), rt, nx, Pv (i + 1)⟩ σ2 H2) (hd : ∀ σ H, Pv xs.length σ H → nx σ H) : ForIt (IteT K a) g t ⟨nx, rt, bk, ct⟩ σ H := by
  refine ⟨fun i m σ H => m = xs.length - i ∧ i ≤ xs.length ∧ Pv i σ H, ⟨xs.length, rfl, Nat.zero_le _, h0⟩, ?_⟩
  rintro i m σ H ⟨rfl, hi, p⟩
  have qx := hq i σ H p
  by_cases hlt : i < xs.length
  · have hx : xs[i]? = some xs[i] := List.getElem?_eq_getElem hlt
    refine .inr ⟨⟨xs, _, qx, hx⟩, Pv (i + 1), fun σ' H' p' => ⟨xs.length - (i + 1), by omega, rfl, hlt, p'⟩, fun v H' y => ?_⟩
    obtain ⟨T, x', rfl, hT, rfl, f1⟩ := y
    exact hs i x' T σ H _ (f1 xs qx) p (Ex.new hT) upd_same
  · have e : i = xs.length := by omega
    subst e
    exact .inl ⟨⟨xs, qx, rfl⟩, hd σ H p⟩
theorem max0 (a b : Nat) : (if (a : Int) - (b : Int) > 0 then (a : Int) - (b : Int) else 0) = ((a - b : Nat) : Int) := by split <;> omega
end
end Xl

/-! dicts with int keys: get with a default, a walk over the items, sorted (own work). -/
namespace Xl
open PySem PySem.Spec PyProof.Rows L2
/-- sorted(d), any number of int keys -/
def rSortDA : List V → Hp → VK → Prop := fun xs H Q => ∃ (a : Addr) (kvs : List (Key × V)) (ks : List Int), xs = [.ref a] ∧ H a = some (.dK kvs) ∧ kvs.map (·.1) = ks.map Sum.inl ∧
  ∀ (ys : List Int) (p : Addr), ys.Perm ks → ys.Pairwise (· ≤ ·) → H p = none → Q (.ref p) (upd H p (.lst (ys.map V.int)))
theorem key_ints {vs : List (Key × Value)} {ks : List Int} {its : List Value} (hk : vs.map (·.1) = ks.map Sum.inl) (hl : its.length = ks.length)
    (h : ∀ (j : Nat) (v : Value), its[j]? = some v → ∃ k x, vs[j]? = some (k, x) ∧ keyIs k v = true) : IntsAre its ks := by
  refine ints_each hl fun j v hj => ?_
  obtain ⟨k, x, g1, g2⟩ := h j v hj
  have g3 : (ks.map (Sum.inl : Int → Key))[j]? = some k := by rw [← hk, List.getElem?_map, g1] <;> rfl
  rw [List.getElem?_map] at g3
  cases hz : ks[j]? with
  | none =>
    rw [hz] at g3
    cases g3
  | some i =>
    rw [hz] at g3
    obtain rfl : Sum.inl i = k := Option.some.inj g3
    rcases keyIs_shape g2 with ⟨i', t, ei, ev⟩ | ⟨z, t, ez, _⟩
    · cases ei
      exact ⟨i, t, rfl, ev⟩
    · cases ez
theorem cr_sortDA {X : Cx} (hcalm : X.calm = true) : CallR X (.builtin "sorted") rSortDA := by
  intro pins s σ H xs us Q I r hq
  obtain ⟨a, kvs, ks, rfl, hd, hks, q⟩ := hq
  obtain ⟨u, rfl, ru⟩ := vals1 r
  cases ru
  obtain ⟨hz, lo, vs, rel, dd⟩ := dk_rd I.hok (.inl hd)
  obtain ⟨ep, at1⟩ := dd.dictAt
  have hkv : vs.map (·.1) = ks.map Sum.inl := Eq.trans (Eq.symm rel.keys) hks
  have hlen : vs.length = ks.length := by simpa using congrArg List.length hkv
  have hkz : ks.length ≤ sizeLine := by rw [← hlen, ← rel.length]; exact hz
  refine Calls.call_function_entry PyProof.Rows.kind_sorted PyProof.Rows.plain_sorted PyProof.Rows.entry_sorted (PyProof.Rows.args_sorted1 _) ?_
  unfold Builtin.«sorted»
  refine wpAny_bind (m := checkCount "sorted" 1 1 _) (wpAny_pure (wpAny_bind ?_))
  refine PySem.W.kdu_collect (PySem.W.kdl_dict (knd := mixKind X.prog X.w) (kvs := vs) (ep := ep) lo) (I.ok.hd hcalm) at1 (by rw [hlen]; exact hkz) fun h1 t1 arr keep harr => ?_
  have hi : IntsAre arr.toList ks := key_ints hkv (by rw [Array.length_toList, harr.1, hlen]) fun j v hj => harr.2 j v (by rw [← Array.getElem?_toList]; exact hj)
  have hal : arr.toList.length ≤ sizeLine := by rw [hi.length]; exact hkz
  have J : Inv X pins σ H { s with heap := h1, toks := t1 } := I.kept keep
  refine wpAny_bind (wpAny_newList ?_ hal)
  have here : (h1.push (PyProof.Rows.seqObj "list" arr.toList.toArray 0)).get? h1.objs.size = some (PyProof.Rows.seqObj "list" arr.toList.toArray 0) := Heap.get?_push_size _ rfl
  show wpAny _ _ _ _ _ { s with heap := h1.push (PyProof.Rows.seqObj "list" arr.toList.toArray 0), toks := t1 }
  refine wpAny_bind (wpAny_holding (wpAny_call_entry PyProof.Rows.slot_list_sort ⟨_, here, rfl⟩ PyProof.Rows.entry_list_sort ?body (PyProof.Rows.args_list_sort _)))
  case body =>
    refine SrtO.list_sort_ord (s := { s with heap := h1.push (PyProof.Rows.seqObj "list" arr.toList.toArray 0), toks := t1 }) SrtO.swo_int here hal (fun h2 => SrtO.ints_sortable hi h2) fun out hs hb => ⟨_, rfl, ?_⟩
    obtain ⟨o1, o2, o3⟩ := SrtO.ints_out hi hs hb
    obtain ⟨e2, he2⟩ := PyProof.Rows.sortedHeap_at (vs := arr.toList) (out := out.toArray) here
    have hol : ((out.map SrtO.iv).map V.int).length ≤ sizeLine := by rw [List.length_map, o2.length_eq]; exact hkz
    refine wpAny_pure ⟨_, rfl, .ref h1.objs.size, upd H h1.objs.size (.lst ((out.map SrtO.iv).map V.int)), J.laid (t' := t1) (fun b u hb => ?_) (Nat.le_refl _) (show ObjOk X.prog X.w _ _ _ (.lst ((out.map SrtO.iv).map V.int)) from ⟨hol, out, e2, vals_of_ints o1, he2⟩), rfl, q _ _ o2 o3 (J.hok.fresh (Nat.le_refl _))⟩
    have hlt : b < h1.objs.size := Heap.lt_size hb
    rw [PyProof.Rows.sortedHeap_old (Nat.ne_of_lt hlt) (by rw [PyProof.Rows.size_push']; exact Nat.lt_succ_of_lt hlt)]
    exact Heap.get?_push_of_some _ hb
section
variable {K : PySem.W.Frag} {σ : L2.St} {H : Hp} {Q : VK} {td ty tx : TE} {g : TG} {t : TS}
theorem x_sortDA {a : Addr} {kvs : List (Key × V)} {ks : List Int} (h : H a = some (.dK kvs)) (hk : kvs.map (·.1) = ks.map Sum.inl) (q : ∀ (ys : List Int) p H1, ys.Perm ks → ys.Pairwise (· ≤ ·) → H p = none → Ex H H1 → H1 p = some (.lst (ys.map V.int)) → Q (.ref p) H1) : rSortDA [.ref a] H Q :=
  ⟨a, kvs, ks, rfl, h, hk, fun ys p h1 h2 hp => q ys p _ h1 h2 hp (Ex.new hp) upd_same⟩
/-! d.get(k, x) -/
def DG (x : V) (H : Hp) (k : Addr → Prop) : Prop := ∃ a, x = .ref a ∧ IsD H a ∧ k a
def DGo (a : Addr) (y z : V) (H : Hp) (Q : VK) : Prop := ∃ o, DGet H a y o ∧ Q (o.getD z) H
theorem x_dget2 (h : td σ H fun x H1 => DG x H1 fun a => ty σ H1 fun y H2 => tx σ H2 fun z H3 => DGo a y z H3 Q) : tDGet2 td ty tx σ H Q := h
theorem x_DG {a : Addr} {kvs : List (Key × V)} {k : Addr → Prop} (h : H a = some (.dK kvs)) (q : k a) : DG (.ref a) H k := ⟨a, rfl, .inl ⟨kvs, .inl h⟩, q⟩
theorem x_DGo {a : Addr} {kvs : List (Key × V)} {i : Int} {z : V} (h : H a = some (.dK kvs)) (q : Q ((valV kvs (.inl i)).getD z) H) : DGo a (.int i) z H Q := ⟨_, DGet.k (k := .inl i) h, q⟩
/-! for (k, v) in d.items() -/
theorem x_lockFor {i : Nat} {d : Addr} {kvs : List (Key × V)} {nx bk ct : L2.St → Hp → Prop} {rt : VK} (hσ : σ[i]? = some (some (.ref d))) (hd : H d = some (.dK kvs))
    (h : ∀ od, ForIt (Iti d od kvs) g t ⟨fun σ' H' => H' d = some (.frz od (.dK kvs)) ∧ nx σ' (upd H' d (.dK kvs)), fun v H' => H' d = some (.frz od (.dK kvs)) ∧ rt v (upd H' d (.dK kvs)), fun σ' H' => H' d = some (.frz od (.dK kvs)) ∧ bk σ' (upd H' d (.dK kvs)), fun σ' H' => H' d = some (.frz od (.dK kvs)) ∧ ct σ' (upd H' d (.dK kvs))⟩ σ (upd H d (.frz od (.dK kvs)))) :
    tLock (tFor (iItems (tVar i)) g t) ⟨nx, rt, bk, ct⟩ σ H := ⟨d, .dK kvs, hd, trivial, fun od => ⟨_, hσ, d, od, kvs, rfl, upd_same, h od⟩⟩
theorem for_items {d : Addr} {od : Obj} {kvs : List (Key × V)} {nx bk ct : L2.St → Hp → Prop} {rt : VK} (Pv : Nat → L2.St → Hp → Prop) (h0 : Pv 0 σ H) (hq : ∀ i σ H, Pv i σ H → H d = some (.frz od (.dK kvs)))
    (hs : ∀ (i : Nat) (k : Key) (v : V) (T : Addr) (σ : L2.St) (H H' : Hp), kvs[i]? = some (k, v) → Pv i σ H → Ex H H' → H' T = some (.tup [kV k, v]) → g (.ref T) σ H' fun σ2 H2 => t ⟨Pv (i + 1), rt, nx, Pv (i + 1)⟩ σ2 H2) (hd : ∀ σ H, Pv kvs.length σ H → nx σ H) : ForIt (Iti d od kvs) g t ⟨nx, rt, bk, ct⟩ σ H := by
  refine ⟨fun i m σ H => m = kvs.length - i ∧ i ≤ kvs.length ∧ Pv i σ H, ⟨kvs.length, rfl, Nat.zero_le _, h0⟩, ?_⟩
  rintro i m σ H ⟨rfl, hi, p⟩
  have qd := hq i σ H p
  by_cases hlt : i < kvs.length
  · refine .inr ⟨⟨qd, hlt⟩, Pv (i + 1), fun σ' H' p' => ⟨kvs.length - (i + 1), by omega, rfl, hlt, p'⟩, fun v H' y => ?_⟩
    obtain ⟨T, k, x, hk, rfl, hT, rfl⟩ := y
    exact hs i k x T σ H _ hk p (Ex.new hT) upd_same
  · have e : i = kvs.length := by omega
    subst e
    exact .inl ⟨⟨qd, Nat.le_refl _⟩, hd σ H p⟩
theorem rep_flat (n : Nat) (v : V) : (List.replicate n [v]).flatten = List.replicate n v := by
  induction n with
  | zero => rfl
  | succ n ih => rw [List.replicate_succ, List.flatten_cons, ih, List.replicate_succ] <;> rfl
theorem x_rRepT {l : Addr} {v : V} {k : Int} (h : SqT K H l [v]) (hk : 2 ≤ k ∧ k ≤ 1000) (q : ∀ p H1, H p = none → Ex H H1 → H1 p = some (.tup (List.replicate k.toNat v)) → Q (.ref p) H1) : rRepT K (.ref l) (.int k) H Q :=
  ⟨l, k, [v], rfl, rfl, h, by simp, hk.1, hk.2, by simp, fun p hp => q p _ hp (Ex.new hp) (by rw [upd_same, rep_flat])⟩
end
theorem tyL {K : PySem.W.Frag} {H : Hp} {a : Addr} {xs : List V} (h : H a = some (.lst xs)) : TyX K H (.ref a) (.type "list") := .base (.lst h)
/-- the slice from the j-th but last -/
theorem cut_back (xs : List V) (j : Nat) (hj : 0 < j) : cutV xs (some (-((j : Int)))) none = xs.drop (xs.length - j) := by
  unfold cutV
  have e : HT.sIx xs.length 0 (some (-((j : Int)))) = xs.length - j := by
    show (if -((j : Int)) < 0 then (-((j : Int)) + (xs.length : Int)).toNat else min (-((j : Int))).toNat xs.length) = _
    rw [if_pos (by omega)]
    omega
  rw [HT.sIx_none, e, List.take_of_length_le (by rw [List.length_drop]; omega)]
end Xl

/-! if and for in the body of a generator def (own work). -/
namespace Xl
open PySem PySem.Spec PyProof.Rows L2 GenW
section
variable {X : Cx}
/-- if t: .. else: .., with yields within -/
def tGIf (tc : TT) (tb te : TGn) : TGn := fun D ys σ H => tc σ H fun b H1 => if b = true then tb D ys σ H1 else te D ys σ H1
theorem gs_if {test : Expr} {body orelse : List Stmt} {pos : Pos} {tc : TT} {tb te : TGn} (hc : PT X test tc) (hb : GSs X body tb) (he : GSs X orelse te) : GS X (.If test body orelse pos) (tGIf tc tb te) := by
  refine ⟨fun A S ip R n ys s₀ c fs K J gd lv s σ H D g hn k hI ht => ?_⟩
  refine seg_at (p' := pos) ?_
  show Seg _ _ _ _ _ _ _ ((isTrue test X.env (eval test X.env) >>= fun b => if b = true then execs body X.env else execs orelse X.env).wrap K J gd lv) fs s
  rw [Sem.bind_eq_wrap', Sem.wrap_wrap]
  refine seg_wrap ?_
  rw [g.over]
  obtain ⟨acc, cc, r, I⟩ := hI
  refine wpAny_mono (hc.run _ s σ H _ I ht) (fun b s' hq => ?_) fun x s' hx => k.exc n s₀ x s' hx
  obtain ⟨H2, I2, q2⟩ := hq
  cases b with
  | true =>
    rw [if_pos rfl] at q2
    rw [if_pos rfl]
    exact hb.run A S ip R n ys s₀ c fs K J gd lv s' σ H2 D g hn k ⟨acc, cc, r, I2⟩ q2
  | false =>
    rw [if_neg Bool.false_ne_true] at q2
    rw [if_neg Bool.false_ne_true]
    exact he.run A S ip R n ys s₀ c fs K J gd lv s' σ H2 D g hn k ⟨acc, cc, r, I2⟩ q2
/-- one turn of a for loop, as a segment -/
theorem seg_forTurn {prog : Program} {w : World} {A : Around} {R : GenEnd} {Y : Protocol} {n : Nat} {s₀ : Shared} {fs : List Frame} {s : Shared} {env : Env} {tg : Expr} {it : Value} {body : List Stmt} {B : Around} (hB : A.over (.forLoop tg it body [] env) fs = B) (EE : Value → Shared → Prop)
    (hE : ∀ x s', EE x s' → Seg (model prog w) A R Y n s₀ (.forLoop tg it body [] env) ((do noteFrame x env; theTreesLotGoes x : Sem Unit).wrap (fun _ => .raise x) .raise id id) fs s')
    (h : wpAny (model prog w) B (pyNext it) (fun r s1 => match r with
      | none => Seg (model prog w) A R Y n s₀ (.forLoop tg it body [] env) (.pure (.again (.block [] env))) fs s1
      | some v => wpAny (model prog w) B (letOwnedTupleGo tg it v) (fun _ s2 => wpAny (model prog w) B (assign tg env v) (fun _ s3 =>
          Seg (model prog w) A R Y n s₀ (.forLoop tg it body [] env) ((execs body env).wrap (fun f => match f with
            | .next | .cont => .pure (.again (.forLoop tg it body [] env))
            | .brk => .pure (.done .next)
            | .ret v => .pure (.done (.ret v))) (fun e => (do noteFrame e env; theTreesLotGoes e : Sem Unit).wrap (fun _ => .raise e) .raise id id) id id) fs s3) EE s2) EE s1) EE s) :
    Seg (model prog w) A R Y n s₀ (.forLoop tg it body [] env) ((model prog w).den (.forLoop tg it body [] env)) fs s := by
  subst hB
  show Seg _ A R Y n s₀ _ ((forTurn tg it body [] env).onRaise (fun x => do noteFrame x env; theTreesLotGoes x)) fs s
  unfold forTurn
  rw [Sem.onRaise_eq_wrap]
  refine seg_at (p' := tg.pos) ?_
  show Seg _ _ _ _ _ _ _ (((pyNext it).onRaise _ >>= _).wrap _ _ _ _) fs s
  rw [Sem.bind_eq_wrap', Sem.wrap_wrap]
  refine seg_wrap (wpAny_onRaise (wpAny_mono h (fun r s1 h1 => ?_) fun x s1 h1 => wpAny_standAt ?_))
  · cases r with
    | none => exact h1
    | some v =>
      show Seg _ _ _ _ _ _ _ ((letOwnedTupleGo tg it v >>= _).wrap _ _ _ _) fs s1
      rw [Sem.bind_eq_wrap', Sem.wrap_wrap]
      refine seg_wrap (wpAny_mono h1 (fun _ s2 h2 => ?_) fun x s2 h2 => ?_)
      · show Seg _ _ _ _ _ _ _ ((assign tg env v >>= _).wrap _ _ _ _) fs s2
        rw [Sem.bind_eq_wrap', Sem.wrap_wrap]
        refine seg_wrap (wpAny_mono h2 (fun _ s3 h3 => ?_) fun x s3 h3 => ?_)
        · show Seg _ _ _ _ _ _ _ ((execs body env >>= _).wrap _ _ _ _) fs s3
          rw [Sem.bind_eq_wrap', Sem.wrap_wrap]
          rw [Sem.wrap_congr (execs body env) _ _ (K' := fun f => match f with
            | .next | .cont => .pure (.again (.forLoop tg it body [] env))
            | .brk => .pure (.done .next)
            | .ret v => .pure (.done (.ret v))) (H' := (fun e => (do noteFrame e env; theTreesLotGoes e : Sem Unit).wrap (fun _ => .raise e) .raise id id))
            (fun f => by cases f <;> rfl)
            (fun e => by first | exact Sem.bind_eq_wrap _ _ | (show (do noteFrame e env; theTreesLotGoes e : Sem Unit).bind (fun _ => .raise e) = _; rw [Sem.bind_eq_wrap]))]
          exact h3
        · have := hE x s3 h3
          rw [← Sem.bind_eq_wrap] at this
          exact this
      · have := hE x s2 h2
        rw [← Sem.bind_eq_wrap] at this
        exact this
  · have := hE x s1 h1
    rw [← Sem.bind_eq_wrap] at this
    exact this
/-- for x in ..: .., with yields within -/
def GForIt (J : It) (g : TG) (tb : TGn) (D : GEnds) (ys : List V) (σ : L2.St) (H1 : Hp) : Prop := ∃ W : Nat → Nat → List V → L2.St → Hp → Prop, (∃ m, W 0 m ys σ H1) ∧ ∀ i m ys σ H, W i m ys σ H →
  (J.stop i H ∧ D.nx ys σ H) ∨ (J.go i H ∧ ∃ N : List V → L2.St → Hp → Prop, (∀ ys' σ' H', N ys' σ' H' → ∃ m', m' < m ∧ W (i + 1) m' ys' σ' H') ∧ ∀ x H', J.yld i H x H' → g x σ H' fun σ2 H2 => tb { D with nx := N, ct := N, bk := D.nx } ys σ2 H2)
def tGFor (wi : TI) (g : TG) (tb : TGn) : TGn := fun D ys σ H => wi σ H fun J H1 => GForIt J g tb D ys σ H1
theorem pins_ne {X : Cx} {S : Addr} {acc : Array Value} {c : Nat} {ip : List (Addr × Obj)} {H : Hp} {b : Addr} (f : FpOk X ((S, lstObj acc c) :: ip) H b) : b ≠ S := fun e =>
  f.2.2.2.2.2 (S, lstObj acc c) (List.mem_append_right _ List.mem_cons_self) e.symm
theorem gs_for {tg iter : Expr} {body : List Stmt} {wi : TI} {g : TG} {tb : TGn} {pos : Pos} (hp : PassesOwn (model X.prog X.w) X.A X.env X.xe) (hc : X.calm = true) (hi : PI X tg iter wi) (hg : PG X tg g) (hb : GSs X body tb)
    (hs : ∀ x, foldedSetIterable iter X.env x = pure x := by intro _; rfl) : GS X (.For tg iter body [] pos) (tGFor wi g tb) := by
  refine ⟨fun A S ip R n ys s₀ c fs K J gd lv s σ H D G hn k hI ht => ?_⟩
  obtain ⟨acc0, cc0, r0, I0⟩ := hI
  refine seg_at (p' := pos) ?_
  show Seg _ _ _ _ _ _ _ ((eval iter X.env >>= fun x0 => (foldedSetIterable iter X.env x0 >>= fun x => (standAt iter.pos >>= fun _ => (holding [x] (pyIter x) >>= fun it => runOwn (.forLoop tg it body [] X.env) X.env)))).wrap K J gd lv) fs s
  rw [Sem.bind_eq_wrap', Sem.wrap_wrap]
  refine seg_wrap ?_
  rw [G.over]
  refine wpAny_mono (hi.run _ s σ H _ I0 ht) (fun v s1 h1 => ?_) fun x s' hx => k.exc n s₀ x s' hx
  rw [hs v]
  refine seg_at (p' := iter.pos) ?_
  show Seg _ _ _ _ _ _ _ ((holding [v] (pyIter v) >>= fun it => runOwn (.forLoop tg it body [] X.env) X.env).wrap K J gd lv) fs s1
  rw [Sem.bind_eq_wrap', Sem.wrap_wrap]
  refine seg_wrap ?_
  rw [G.over]
  refine wpAny_holding (wpAny_mono h1 (fun itv s2 h2 => ?_) fun x s' hx => k.exc n s₀ x s' hx)
  obtain ⟨it, fp, tn, J1, H2, e, I2, T, st2, f2, W, ⟨m0, w0⟩, turn⟩ := h2
  subst e
  have stat : ∀ {ys : List V} {acc : Array Value} {cc : Nat} {H' : Hp} {s' : Shared} {σ' : L2.St}, Inv X ((S, lstObj acc cc) :: ip) σ' H' s' → (∀ b ∈ fp, H' b = none) → ∀ b ∈ fp, FpOk X ((S, lstObj acc cc) :: ip) H' b := fun {ys acc cc H' s' σ'} I' hn' b hb => by
    obtain ⟨z1, z2, z3, z4, z5, z6⟩ := f2 b hb
    refine ⟨hn' b hb, z2, z3, z4, z5, fun p hp => ?_⟩
    rcases List.mem_append.mp hp with q | q
    · exact z6 p (List.mem_append_left _ q)
    · rcases List.mem_cons.mp q with q | q
      · rw [q]
        exact z6 (S, lstObj acc0 cc0) (List.mem_append_right _ List.mem_cons_self)
      · exact z6 p (List.mem_append_right _ (List.mem_cons_of_mem _ q))
  refine seg_call fun p => ?_
  have gl := fun (kk : Result → Sem PySem.Fin) => gc_loop (k := kk) (c' := .forLoop tg (.ref it) body [] X.env) (l := lv []) (kp := []) (p := p) G rfl rfl
  have loop : ∀ (m i n : Nat) (ys : List V) (s₀ s : Shared) (σ : L2.St) (H : Hp), n + ys.length = sizeLine → W i m ys σ H → GI X S ip ys σ H s → tn i s.heap → (∀ b ∈ fp, H b = none) →
      Seg (model X.prog X.w) A R (GY X S) n s₀ (.forLoop tg (.ref it) body [] X.env) ((model X.prog X.w).den (.forLoop tg (.ref it) body [] X.env))
        (.ret (fun r => ((match r with | .ok f => (.pure f : Sem Flow) | .error e => .raise e).onRaise (cameBack X.env)).wrap K J gd lv) none (gd false) (lv []) c p [] :: fs) s := by
    intro m
    induction m using Nat.strongRecOn with
    | ind m ih =>
      intro i n ys s₀ s σ H hn w hI st hfr
      have ee : ∀ (n : Nat) (s₀ : Shared) (x : Value) (s' : Shared), X.xe x s' → Seg (model X.prog X.w) A R (GY X S) n s₀ (.forLoop tg (.ref it) body [] X.env)
          ((do noteFrame x X.env; theTreesLotGoes x : Sem Unit).wrap (fun _ => .raise x) .raise id id)
          (.ret (fun r => ((match r with | .ok f => (.pure f : Sem Flow) | .error e => .raise e).onRaise (cameBack X.env)).wrap K J gd lv) none (gd false) (lv []) c p [] :: fs) s' := fun n s₀ x s' hx => by
        refine seg_wrap ?_
        rw [(gl _).over]
        refine wpAny_bind (wpAny_mono (hp x s' hx) (fun _ s'' hcb => wpAny_theTreesLotGoes ?_) fun y s'' hcb => ?_)
        · exact seg_leaf (.error x) (seg_cameBack G k hcb)
        · exact seg_leaf (.error y) (seg_cameBack G k hcb)
      refine seg_forTurn (B := X.A) (gl _).over X.xe (fun x s' hx => ee n s₀ x s' hx) ?_
      obtain ⟨acc, cc, r, I⟩ := hI
      have fpo := stat (ys := ys) I hfr
      rcases turn i m ys σ H w with ⟨stop, qn⟩ | ⟨go, N, hN, step⟩
      · refine wpAny_mono (T.done X rfl rfl rfl hc i _ s σ H X.xe I fpo st stop) (fun r4 s4 hr => ?_) fun x s' hx => hx
        obtain ⟨hr, I4⟩ := hr
        subst hr
        refine seg_again rfl ?_
        show Seg _ _ _ _ _ _ _ (.pure (.done .next)) _ s4
        exact seg_leaf (.ok .next) (k.ok n ys s₀ s4 .next hn ⟨σ, H, ⟨acc, cc, r, I4⟩, qn⟩)
      · refine wpAny_mono (T.item X rfl rfl rfl hc i _ s σ H X.xe I fpo st go) (fun r4 s4 hr => ?_) fun x s' hx => hx
        obtain ⟨u, hr, h4⟩ := hr
        subst hr
        refine wpAny_mono h4 (fun _ s5 h5 => ?_) fun x s' hx => hx
        obtain ⟨x, H5, I5, r5, y5, st5, fr5⟩ := h5
        have fpo5 := stat (ys := ys) I5 fr5
        have I5' : Inv X ((S, lstObj acc cc) :: (ip ++ pinsAt fp s5.heap)) σ H5 s5 := I5.pinned fpo5 (T.obj _ _ st5)
        refine wpAny_mono (hg.run _ s5 σ H5 x u _ I5' r5 (step x H5 y5)) (fun _ s6 h6 => ?_) fun x s' hx => hx
        obtain ⟨σ6, H6, I6, q6⟩ := h6
        have ipne : ∀ p ∈ ip ++ pinsAt fp s5.heap, p.1 ≠ S := fun p hp => by
          rcases List.mem_append.mp hp with z | z
          · exact G.ip p z
          · have hb : p.1 ∈ fp := (of_pinsAt z).1
            exact pins_ne (fpo5 p.1 hb)
        have G2 : GC X S (ip ++ pinsAt fp s5.heap) A (.forLoop tg (.ref it) body [] X.env) (.ret (fun r => ((match r with | .ok f => (.pure f : Sem Flow) | .error e => .raise e).onRaise (cameBack X.env)).wrap K J gd lv) none (gd false) (lv []) c p [] :: fs) id :=
          ⟨G.pn, ipne, G.apart, (gl _).over, (gl _).split, (gl _).guard, rfl⟩
        refine hb.run A S (ip ++ pinsAt fp s5.heap) R n ys s₀ _ _ _ _ id id s6 σ6 H6 { D with nx := N, ct := N, bk := D.nx } G2 hn ⟨fun n' ys' s₀' s7 f hn' hs7 => ?_, fun n' s₀' x s7 hx => ee n' s₀' x s7 hx⟩ ⟨acc, cc, r, I6⟩ q6
        have back : ∀ {ys' : List V} {σ7 : L2.St} {H7 : Hp}, GI X S (ip ++ pinsAt fp s5.heap) ys' σ7 H7 s7 → GI X S ip ys' σ7 H7 s7 := fun {ys' σ7 H7} ⟨acc7, cc7, r7, I7⟩ => ⟨acc7, cc7, r7, I7.unpinned (pins := (S, lstObj acc7 cc7) :: ip)⟩
        have again : ∀ {σ7 : L2.St} {H7 : Hp}, GI X S (ip ++ pinsAt fp s5.heap) ys' σ7 H7 s7 → N ys' σ7 H7 → Seg (model X.prog X.w) A R (GY X S) n' s₀' (.forLoop tg (.ref it) body [] X.env) (.pure (.again (.forLoop tg (.ref it) body [] X.env)))
            (.ret (fun r => ((match r with | .ok f => (.pure f : Sem Flow) | .error e => .raise e).onRaise (cameBack X.env)).wrap K J gd lv) none (gd false) (lv []) c p [] :: fs) s7 := fun {σ7 H7} hI7 n7 => by
          obtain ⟨m', hm, w7⟩ := hN ys' σ7 H7 n7
          refine seg_again rfl (ih m' hm (i + 1) n' ys' s₀' s7 σ7 H7 hn' w7 (back hI7) ?_ ?_)
          · obtain ⟨acc7, cc7, r7, I7⟩ := hI7
            exact T.keep _ _ _ st5 fun b hb o e => (I7.pin (b, o) (List.mem_append_right _ (List.mem_cons_of_mem _ (List.mem_append_right _ (mem_pinsAt hb e))))).1
          · intro b hb
            obtain ⟨o, e, d⟩ := T.obj _ _ st5 b hb
            obtain ⟨acc7, cc7, r7, I7⟩ := hI7
            exact (I7.pin (b, o) (List.mem_append_right _ (List.mem_cons_of_mem _ (List.mem_append_right _ (mem_pinsAt hb e))))).2.1
        cases f with
        | next => obtain ⟨σ7, H7, I7, n7⟩ := hs7; exact again I7 n7
        | cont => obtain ⟨σ7, H7, I7, n7⟩ := hs7; exact again I7 n7
        | brk => obtain ⟨σ7, H7, I7, q7⟩ := hs7; exact seg_leaf (.ok .next) (k.ok n' ys' s₀' s7 .next hn' ⟨σ7, H7, back I7, q7⟩)
        | ret v => obtain ⟨x7, σ7, H7, I7, r7, q7⟩ := hs7; exact seg_leaf (.ok (.ret v)) (k.ok n' ys' s₀' s7 (.ret v) hn' ⟨x7, σ7, H7, back I7, r7, q7⟩)
  exact loop m0 0 n ys s₀ s2 σ H2 hn w0 ⟨acc0, cc0, r0, I2⟩ st2 fun b hb => (f2 b hb).1
end
end Xl

/-! generator defs of the text: made, list(..) of them (own work). -/
namespace Xl
open PySem PySem.Spec PyProof.Rows L2 GenW
section
variable {X : Cx}
theorem gs_nox {st : Stmt} {t : TS} (h : PS X.nox st t) : GS X st (tPlain t) := gs_ps ⟨fun pins s σ H D I hw => wpAny_mono (h.run pins s σ H D (I.wish _) hw) (fun _ _ q => q.unwish) fun _ _ z => False.elim z⟩
theorem pi_nox {tg iter : Expr} {wi : TI} (h : PI X.nox tg iter wi) : PI X tg iter wi := ⟨fun pins s σ H R I hw =>
  wpAny_mono (h.run pins s σ H R (I.wish _) hw) (fun v s1 h1 => wpAny_mono h1 (fun itv s2 ⟨it, fp, tn, J, H', e, I', T, st, f, q⟩ => ⟨it, fp, tn, J, H', e, I'.unwish, T, st, f, q⟩) fun _ _ z => False.elim z) fun _ _ z => False.elim z⟩
theorem pg_nox {tg : Expr} {g : TG} (h : PG X.nox tg g) : PG X tg g := ⟨fun pins s σ H v u Q I r hw => wpAny_mono (h.run pins s σ H v u Q (I.wish _) r hw) (fun _ _ ⟨σ', H', I', q⟩ => ⟨σ', H', I'.unwish, q⟩) fun _ _ z => False.elim z⟩
end
theorem noStop0 {K : PySem.W.Frag} : NoStop K E0 := fun _ _ _ z => z.elim
theorem passesG {X : Cx} : Passes (CX X.prog X.w) X E0 := fun _ _ _ _ _ _ _ h => by
  obtain ⟨_, _, _, _, _, _, _, _, _, _, _, _, z⟩ := h
  exact z.elim
section
variable (P : Program) (w : World) (K : PySem.W.Frag) (mg : Str → Option Value) (base : Heap)
/-- the generator def x -/
structure CalG (x : Str) (k : Nat) (ps : List Str) (sp : SpG) : Prop where
  ex : ∃ fd, mg x = some (.ref (He.ga K x)) ∧ PySem.W.keepIn K (.ref (He.ga K x)) = true ∧ Binds K fd ps [] ∧ GFn P w K mg base k (He.ga K x) fd ps sp
/-- the generator method m of C, self alone -/
structure CalGT (x m : Str) (k : Nat) (ps : List Str) (sp : SpG) : Prop where
  ex : ∃ g fd, Cls K (He.ga K x) ∧ Meth K (He.ga K x) m g ∧ Binds K fd ps [] ∧ GFn P w K mg base k g fd ps sp
end
/-- the generator def, by its body -/
theorem gen_ok {P : Program} {w : World} {K : PySem.W.Frag} {mg : Str → Option Value} {base : Heap} {x qual : Str} {params : Arguments} {body : List Stmt} {scope : Scope} {kws : List (Str × V)} {f : Addr} {fd : FuncData} {N ps : List Str} {k : Nat} {sp : SpG}
    (F : FunD K x qual params body scope [] kws f fd) (S : GScope N ps scope) (len : ∀ vs H Q E, sp vs H Q E → vs.length = ps.length)
    (hbody : ∀ (cdv : Value) (A : Around) (outer : List Env) (s : Shared) (H : Hp) (vs : List V) (Q : List V → Hp → Prop) (E : XK) (pn : List (Addr × Obj)), Room k (A.deeper (envOfC qual scope s.heap.objs.size f cdv)) → sp vs H Q E →
      ∃ t, GSs (gcxOf P w K mg base N qual scope f cdv A outer s H E pn) body t ∧ t { nx := fun ys _ H' => Q ys H', rt := fun ys v H' => v = .non ∧ Q ys H' } [] (start N vs) H) : GFn P w K mg base (k + 1) f fd ps sp := by
  obtain ⟨oc, od, dV, kV, doc, pm, an, cdv, ct, osl, rfl, lk, hcd, _, _⟩ := F.ex
  exact gfn_of lk hcd S len fun A outer s H vs Q E pn hr hsp => hbody cdv A outer s H vs Q E pn hr hsp
section
variable {X : Cx} {k : Nat} {ps : List Str} {sp : SpG} {x : Str} {p p' pos pos' apos : Pos} {e o : Expr} {es : List Expr} {t : TA} {ta : TE}
theorem pgen_cal (c : CalG X.prog X.w X.K X.mg X.base x k ps sp) (hr : Room k X.A) (hg : Gl X x) (ha : PA X (e :: es) t) (hdb : (x == ("__debug__" : Str)) = false := by decide) (he : starEach (e :: es) X.env = (false, eval e X.env) :: starEach es X.env := by rfl) (hpl : (backTo pos' (starEach es X.env)).any (·.1) = false := by rfl) :
    PGen X k (.Call (.Name x p) (e :: es) [] pos') (tCallG sp [] E0 t) E0 := by
  obtain ⟨fd, m, kp, b, F⟩ := c.ex
  exact pgen_call F hr hg m kp b .nil ha hdb he hpl
theorem pgen_calT {m : Str} {pl : Sem Bool} (c : CalGT X.prog X.w X.K X.mg X.base x m k ps sp) (hr : Room k X.A) (he : PE X o ta)
    (ht : eval (.Call (.Attribute o m apos) [] [] pos') X.env = (do
      let ov ← eval o X.env
      standAt apos.atName
      let (f, first) ← holding [ov] (getMethod ov m pl)
      callWith pos' f first (backTo pos' (starEach [] X.env)) (backToKw pos' (keywordEach [] X.env))) := by rfl) :
    PGen X k (.Call (.Attribute o m apos) [] [] pos') (tMethG (He.ga X.K x) m sp [] E0 ta tNil) E0 := by
  obtain ⟨g, fd, C, M, b, F⟩ := c.ex
  exact pgen_meth0 (pl := pl) he C M F hr b .nil ht
theorem pe_lg {tg : TGen} {eg : Expr} (h : PGen X k eg tg E0) (hr : Room (k + 3) X.A) (hg : Gl X "list") (hmg : X.mg "list" = none) (he : starEach [eg] X.env = (false, eval eg X.env) :: starEach [] X.env := by rfl) : PE X (.Call (.Name "list" p) [eg] [] pos) (tListG tg) :=
  pe_listG h passesG noStop0 hr hg hmg (by decide +kernel) (by decide) (by decide) he
end
/-! steps -/
section
variable {K : PySem.W.Frag} {σ : L2.St} {H : Hp} {Q : VK} {sp : SpG} {al : TA} {te : TE} {D : GEnds} {ys : List V} {tt : TT} {t u : TGn} {g : TG}
theorem x_lg (h : al σ H fun vs H1 => sp (vs ++ []) H1 (fun out H2 => ∀ p, H2 p = none → Q (.ref p) (upd H2 p (.lst out))) E0) : tListG (tCallG sp [] E0 al) σ H Q := h
theorem g_then (h : t { D with nx := fun ys' σ' H' => u D ys' σ' H' } ys σ H) : tGThen t u D ys σ H := h
theorem g_nil (h : D.nx ys σ H) : tG0 D ys σ H := h
theorem g_plain {t : TS} (h : t ⟨D.nx ys, D.rt ys, D.bk ys, D.ct ys⟩ σ H) : tPlain t D ys σ H := h
theorem g_yield (hl : ys.length < 100000) (h : te σ H fun x H1 => D.nx (ys ++ [x]) σ H1) : tGYield te D ys σ H := ⟨big_lt hl, h⟩
theorem g_if (h : tt σ H fun b H1 => if b = true then t D ys σ H1 else u D ys σ H1) : tGIf tt t u D ys σ H := h
theorem g_forL (h : te σ H fun x H1 => RefL K x H1 fun a => GForIt (Itl K a) g t D ys σ H1) : tGFor (iList K te) g t D ys σ H := h
/-- for x in the list at a -/
theorem gfor_l {a : Addr} {xs : List V} (Pv : Nat → List V → L2.St → Hp → Prop) (h0 : Pv 0 ys σ H) (hl : ∀ i ys σ H, i ≤ xs.length → Pv i ys σ H → SqL K H a xs)
    (hs : ∀ i x ys σ H, xs[i]? = some x → Pv i ys σ H → g x σ H fun σ2 H2 => t { D with nx := Pv (i + 1), ct := Pv (i + 1), bk := D.nx } ys σ2 H2) (hd : ∀ ys σ H, Pv xs.length ys σ H → D.nx ys σ H) : GForIt (Itl K a) g t D ys σ H := by
  refine ⟨fun i m ys σ H => m = xs.length - i ∧ i ≤ xs.length ∧ Pv i ys σ H, ⟨xs.length, rfl, Nat.zero_le _, h0⟩, ?_⟩
  rintro i m ys σ H ⟨rfl, hi, p⟩
  have q := hl i ys σ H hi p
  by_cases hlt : i < xs.length
  · refine .inr ⟨⟨xs, xs[i], q, List.getElem?_eq_getElem hlt⟩, Pv (i + 1), fun ys' σ' H' p' => ⟨xs.length - (i + 1), by omega, rfl, hlt, p'⟩, fun x H' y => ?_⟩
    obtain ⟨e, y⟩ := y
    subst e
    exact hs i x ys σ _ (y xs q) p
  · have e : i = xs.length := by omega
    subst e
    exact .inl ⟨⟨xs, q, Nat.le_refl _⟩, hd ys σ H p⟩
end
end Xl

namespace Xl
open PySem PySem.Spec PyProof.Rows L2 GenW
local macro_rules | `(tactic| walk_at "x1") => `(tactic| first
  | ((with_reducible show tVar _ _ _ _); refine x_var rfl ?_)
  | (with_reducible refine x_c ?_)
  | (with_reducible refine x_II ?_)
  | ((with_reducible refine x_sd ?_ ?_); (first | (· first | exact trivial | decide | omega | exact .inl ⟨by omega, by omega⟩ | exact .inr ⟨by omega, by omega⟩ | exact ⟨by omega, by omega⟩ | exact ⟨by decide, by decide, by decide⟩) | rotate_left))
  | (with_reducible refine x_asB ?_)
  | (with_reducible refine x_seq ?_)
  | (with_reducible refine x_asgN ?_)
  | (with_reducible refine x_gN ?_)
  | (with_reducible refine x_asg ?_)
  | (with_reducible refine x_drop ?_)
  | (with_reducible refine x_ret ?_)
  | (with_reducible refine x_retN ?_)
  | (with_reducible refine x_next ?_)
  | (with_reducible refine x_if ?_)
  | (with_reducible refine x_brk ?_)
  | (with_reducible refine x_cont ?_)
  | (with_reducible refine x_opI0 ?_)
  | (with_reducible refine x_opI ?_)
  | (with_reducible refine x_opEq ?_)
  | (with_reducible refine x_opNe ?_)
  | (with_reducible refine x_op ?_)
  | (with_reducible refine x_chain ?_)
  | (with_reducible refine x_unI ?_)
  | (with_reducible refine x_gsub ?_)
  | (with_reducible refine x_callN ?_)
  | ((with_reducible show Cn _ _ _ _ _); refine x_Cn rfl rfl ?_)
  | (with_reducible refine x_dget ?_)
  | (with_reducible refine x_din ?_)
  | (with_reducible refine x_dni ?_)
  | (with_reducible refine x_dput ?_)
  | (with_reducible refine x_lc2L ?_)
  | (with_reducible refine x_sl ?_)
  | (with_reducible refine x_noPart ?_)
  | (with_reducible refine x_part ?_)
  | (with_reducible refine x_asO ?_)
  | (with_reducible refine x_rI0 ?_)
  | (with_reducible refine x_rI ?_)
  | (with_reducible refine x_eqI ?_)
  | (with_reducible refine x_neI ?_)
  | (with_reducible refine x_eqS ?_)
  | (with_reducible refine x_neS ?_)
  | (with_reducible refine x_eqB ?_)
  | (with_reducible refine x_neB ?_)
  | (with_reducible refine x_tst ?_)
  | (with_reducible refine x_tB ?_)
  | (with_reducible refine x_and ?_)
  | (with_reducible refine x_or ?_)
  | (with_reducible refine x_not ?_)
  | (with_reducible refine x_andV ?_)
  | (with_reducible refine x_orV ?_)
  | (with_reducible refine x_notV ?_)
  | (with_reducible refine x_ifE ?_)
  | (with_reducible refine x_nilA ?_)
  | (with_reducible refine x_consA ?_)
  | (with_reducible refine x_tup ?_)
  | (with_reducible refine x_lst ?_)
  | (with_reducible refine x_call ?_)
  | (with_reducible refine x_callD ?_)
  | (with_reducible refine x_cb ?_)
  | (with_reducible refine x_min2 ?_)
  | (with_reducible refine x_max2 ?_)
  | (with_reducible refine x_par ?_)
  | (with_reducible refine x_Par ?_)
  | (with_reducible refine x_par3 ?_)
  | (with_reducible refine x_Par3 ?_)
  | ((with_reducible show tAug _ _ _ _ _ _); refine x_aug rfl ?_)
  | (with_reducible refine x_ipI ?_)
  | (with_reducible refine x_forR1 ?_)
  | (with_reducible refine x_forR2 ?_)
  | (with_reducible refine x_forL ?_)
  | (with_reducible refine x_forT ?_)
  | (with_reducible refine x_lcL ?_)
  | (with_reducible refine x_lcT ?_)
  | (with_reducible refine x_lcR1 ?_)
  | (with_reducible refine x_lcR2 ?_)
  | ((with_reducible refine x_R1 ?_ ?_); (first | (· first | decide | omega) | rotate_left))
  | ((with_reducible refine x_R2 ?_ ?_); (first | (· first | decide | omega) | rotate_left))
  | (with_reducible refine x_yes ?_)
  | (with_reducible refine b_t rfl ?_)
  | (with_reducible refine b_f rfl ?_))
local macro_rules | `(tactic| walk_at "x") => `(tactic| repeat walk_at "x1")
local macro_rules | `(tactic| walk_at "bf") => `(tactic| refine b_f (by first | exact decide_eq_false (by omega) | (simp; done) | (simp; omega)) ?_)
local macro_rules | `(tactic| walk_at "bt") => `(tactic| refine b_t (by first | exact decide_eq_true (by omega) | (simp; done) | (simp; omega)) ?_)

local macro_rules | `(tactic| walk_at "x1") => `(tactic| first
  | (with_reducible refine x_mk ?_)
  | (with_reducible refine x_mkV ?_)
  | (with_reducible refine x_cmeth ?_)
  | (with_reducible refine x_isC ?_)
  | (with_reducible refine x_prop ?_)
  | (with_reducible refine x_fld ?_)
  | (with_reducible refine x_sfld ?_)
  | (with_reducible refine x_fmtD ?_))
local macro_rules | `(tactic| walk_at "x1") => `(tactic| with_reducible refine x_revL ?_)

local macro_rules | `(tactic| walk_at "x1") => `(tactic| first
  | (with_reducible refine x_lcZ ?_)
  | (with_reducible refine x_forE ?_)
  | (with_reducible refine x_dget2 ?_))
/-! entries of a dict -/
section
variable {β : Type} (f : β → V)
def kvG (es : List (Int × β)) : List (Key × V) := es.map fun e => (Sum.inl e.1, f e.2)
theorem kvG_keys (es : List (Int × β)) : (kvG f es).map (·.1) = (es.map (·.1)).map Sum.inl := by
  unfold kvG
  rw [List.map_map, List.map_map] <;> rfl
theorem kvG_none {es : List (Int × β)} {t : Int} (h : t ∉ es.map (·.1)) : valV (kvG f es) (.inl t) = none := by
  induction es with
  | nil => rfl
  | cons e r ih =>
    rw [List.map_cons, List.mem_cons, not_or] at h
    show valV ((Sum.inl e.1, f e.2) :: kvG f r) (.inl t) = none
    rw [valV_neg (by intro z; exact h.1 (Sum.inl.inj z).symm)]
    exact ih h.2
theorem kvG_some {es : List (Int × β)} (nd : (es.map (·.1)).Nodup) {e : Int × β} (h : e ∈ es) : valV (kvG f es) (.inl e.1) = some (f e.2) := by
  induction es with
  | nil => cases h
  | cons g r ih =>
    rw [List.map_cons, List.nodup_cons] at nd
    show valV ((Sum.inl g.1, f g.2) :: kvG f r) (.inl e.1) = _
    rcases List.mem_cons.mp h with rfl | h
    · exact valV_pos rfl
    · rw [valV_neg (by intro z; exact nd.1 (List.mem_map.mpr ⟨e, h, (Sum.inl.inj z).symm⟩))]
      exact ih nd.2 h
def putG (es : List (Int × β)) (t : Int) (b : β) : List (Int × β) := if t ∈ es.map (·.1) then es.map (fun e => if e.1 = t then (e.1, b) else e) else es ++ [(t, b)]
theorem kvG_put {es : List (Int × β)} (nd : (es.map (·.1)).Nodup) (t : Int) (b : β) : putK (kvG f es) (.inl t) (f b) = kvG f (putG es t b) := by
  unfold putG
  by_cases h : t ∈ es.map (·.1)
  · rw [if_pos h]
    obtain ⟨e, he, rfl⟩ := List.mem_map.mp h
    unfold putK
    rw [valV_any, kvG_some f nd he, if_pos (show (some (f e.2)).isSome = true from rfl)]
    unfold kvG
    rw [List.map_map, List.map_map]
    refine List.map_congr_left fun g _ => ?_
    show (if (Sum.inl g.1 : Key) = Sum.inl e.1 then ((Sum.inl g.1 : Key), f b) else (Sum.inl g.1, f g.2)) = (Sum.inl (if g.1 = e.1 then (g.1, b) else g).1, f (if g.1 = e.1 then (g.1, b) else g).2)
    by_cases hg : g.1 = e.1
    · rw [if_pos (congrArg Sum.inl hg), if_pos hg]
    · rw [if_neg (fun z => hg (Sum.inl.inj z)), if_neg hg]
  · rw [if_neg h, putK_new _ (kvG_none f h)]
    unfold kvG
    rw [List.map_append] <;> rfl
theorem putG_keys (es : List (Int × β)) (t : Int) (b : β) : (putG es t b).map (·.1) = if t ∈ es.map (·.1) then es.map (·.1) else es.map (·.1) ++ [t] := by
  unfold putG
  by_cases h : t ∈ es.map (·.1)
  · rw [if_pos h, if_pos h, List.map_map]
    refine List.map_congr_left fun e _ => ?_
    show (if e.1 = t then (e.1, b) else e).1 = e.1
    by_cases he : e.1 = t
    · rw [if_pos he]
    · rw [if_neg he]
  · rw [if_neg h, if_neg h, List.map_append] <;> rfl
theorem putG_nd {es : List (Int × β)} (nd : (es.map (·.1)).Nodup) (t : Int) (b : β) : ((putG es t b).map (·.1)).Nodup := by
  rw [putG_keys]
  by_cases h : t ∈ es.map (·.1)
  · rw [if_pos h]
    exact nd
  · rw [if_neg h, List.nodup_append]
    refine ⟨nd, by simp, fun x hx y hy e => ?_⟩
    rw [List.mem_singleton] at hy
    subst hy
    subst e
    exact h hx
theorem putG_mem {es : List (Int × β)} {t : Int} {b : β} {e : Int × β} (h : e ∈ putG es t b) : (e ∈ es ∧ e.1 ≠ t) ∨ e = (t, b) := by
  unfold putG at h
  by_cases hk : t ∈ es.map (·.1)
  · rw [if_pos hk] at h
    obtain ⟨g, hg, rfl⟩ := List.mem_map.mp h
    by_cases hgt : g.1 = t
    · rw [if_pos hgt, hgt]
      exact .inr rfl
    · rw [if_neg hgt]
      exact .inl ⟨hg, hgt⟩
  · rw [if_neg hk] at h
    rcases List.mem_append.mp h with h | h
    · exact .inl ⟨h, fun q => hk (List.mem_map.mpr ⟨e, h, q⟩)⟩
    · exact .inr (List.mem_singleton.mp h)
theorem putG_in (es : List (Int × β)) (t : Int) (b : β) : (t, b) ∈ putG es t b := by
  unfold putG
  by_cases hk : t ∈ es.map (·.1)
  · rw [if_pos hk]
    obtain ⟨e, he, rfl⟩ := List.mem_map.mp hk
    exact List.mem_map.mpr ⟨e, he, by rw [if_pos rfl]⟩
  · rw [if_neg hk]
    exact List.mem_append_right _ (List.mem_singleton.mpr rfl)
theorem putG_old {es : List (Int × β)} {t : Int} {b : β} {e : Int × β} (h : e ∈ es) (ht : e.1 ≠ t) : e ∈ putG es t b := by
  unfold putG
  by_cases hk : t ∈ es.map (·.1)
  · rw [if_pos hk]
    exact List.mem_map.mpr ⟨e, h, by rw [if_neg ht]⟩
  · rw [if_neg hk]
    exact List.mem_append_left _ h
end
abbrev cI (n : Nat) : V := .int (n : Int)
abbrev kvE (es : List (Int × Nat)) : List (Key × V) := kvG cI es
theorem valE {es : List (Int × Nat)} {g : Int → Nat} (r : RepD es g) (t : Int) : valV (kvE es) (.inl t) = if g t = 0 then none else some (.int (g t : Nat)) := by
  by_cases h : t ∈ es.map (·.1)
  · obtain ⟨e, he, rfl⟩ := List.mem_map.mp h
    have h1 := sumE_in r.nd he
    have h2 := r.pos e he
    rw [r.sum] at h1
    rw [kvG_some cI r.nd he, if_neg (by omega), h1]
  · have h1 : ¬ 0 < g t := fun z => h ((r.mem t).mpr z)
    rw [kvG_none cI h, if_pos (by omega)]
theorem getE {es : List (Int × Nat)} {g : Int → Nat} (r : RepD es g) (t : Int) : (valV (kvE es) (.inl t)).getD (.int 0) = .int (g t : Nat) := by
  rw [valE r]
  by_cases h : g t = 0
  · rw [if_pos h, h] <;> rfl
  · rw [if_neg h] <;> rfl
theorem RepD.congr {es : List (Int × Nat)} {g g' : Int → Nat} (r : RepD es g) (h : ∀ t, g t = g' t) : RepD es g' := ⟨r.nd, r.pos, fun t => by rw [r.sum, h]⟩
theorem RepD.put {es : List (Int × Nat)} {g : Int → Nat} (r : RepD es g) (t : Int) {n : Nat} (hn : 0 < n) : RepD (putG es t n) (fun s => if s = t then n else g s) := by
  refine ⟨putG_nd r.nd t n, fun e he => ?_, fun s => ?_⟩
  · rcases putG_mem he with h | h
    · exact r.pos e h.1
    · rw [h]
      exact hn
  · by_cases hs : s = t
    · rw [if_pos hs, hs]
      exact sumE_in (e := (t, n)) (putG_nd r.nd t n) (putG_in es t n)
    · rw [if_neg hs, ← r.sum s]
      by_cases hk : s ∈ es.map (·.1)
      · obtain ⟨e, he, rfl⟩ := List.mem_map.mp hk
        rw [sumE_in r.nd he]
        exact sumE_in (putG_nd r.nd t n) (putG_old he hs)
      · rw [sumE_out fun e he q => hk (List.mem_map.mpr ⟨e, he, q⟩)]
        refine sumE_out fun e he q => ?_
        rcases putG_mem he with h | h
        · exact hk (List.mem_map.mpr ⟨e, h.1, q⟩)
        · rw [h] at q
          exact hs q.symm
theorem at_kvE {es : List (Int × Nat)} {i : Nat} {k : Key} {v : V} (h : (kvE es)[i]? = some (k, v)) : ∃ e, es[i]? = some e ∧ k = .inl e.1 ∧ v = .int (e.2 : Nat) := by
  unfold kvE kvG at h
  rw [List.getElem?_map] at h
  cases e : es[i]? with
  | none =>
    rw [e] at h
    cases h
  | some x =>
    rw [e] at h
    have := Option.some.inj h
    exact ⟨x, rfl, (Prod.mk.inj this).1.symm, (Prod.mk.inj this).2.symm⟩
/-! ### totals -/
def sp_totals (K : PySem.W.Frag) : Sp := fun vs H Q _ => ∃ (a : Addr) (ps : List Nat), vs = [.ref a] ∧ SqT K H a (iv ps) ∧ (∀ p ∈ ps, p ≤ 10) ∧ ps.length ≤ 6 ∧ ∀ d H' es, Ex H H' → H d = none → H' d = some (.dK (kvE es)) → RepD es (Wy ps) → Q (.ref d) H'
theorem len_totals {K : PySem.W.Frag} : ∀ vs H Q E, sp_totals K vs H Q E → vs.length = 1 := by
  rintro _ H Q E ⟨_, _, rfl, _⟩
  rfl
theorem lenN_2047 {p c : Nat} (hp : p ≤ 10) : lenN p c ≤ 2047 := by
  have h4 : 2 ^ (p + 1) ≤ 2 ^ 11 := Nat.pow_le_pow_right (by decide) (by omega)
  have h5 : 0 < 2 ^ (p - c) := Nat.two_pow_pos _
  unfold lenN
  omega
/-- totals: powers ways power longer dots amount count total -/
def t_totals (K : PySem.W.Frag) : TS := (tSeq (tAsg (tDisp [((tC (.int 0)), (tC (.int 1)))]) (gName 1)) (tSeq (tFor (iTup K (tVar 0)) (gName 2) (tSeq (tAsg tDNewK (gName 3)) (tSeq (tFor (iRng1 (tCons (tOp rPlus (tVar 2) (tC (.int 1))) tNil)) (gName 4) (tLock (tFor (iItems (tVar 1)) (gTup K 2 (gCons (gName 5) (gCons (gName 6) gNil))) (tSeq (tAsg (tOp rPlus (tVar 5) (tCall (sp_length_of K) [] E0 (tCons (tVar 2) (tCons (tVar 4) tNil)))) (gName 7)) (sDPut (tVar 3) (tVar 7) (tOp rPlus (tDGet2 (tVar 3) (tVar 7) (tC (.int 0))) (tVar 6))))))) (tAsg (tVar 3) (gName 1))))) (tRet (tVar 1))))

theorem run_totals {K : PySem.W.Frag} {vs : List V} {H : Hp} {Q : VK} {E : XK} (h : sp_totals K vs H Q E) : t_totals K { nx := fun _ H' => Q .non H', rt := Q } (start ["powers", "ways", "power", "longer", "dots", "amount", "count", "total"] vs) H := by
  obtain ⟨a, ps, rfl, hT, hp, hl, q⟩ := h
  unfold t_totals
  walk_at "x"
  refine x_dispC fun pd0 H1 n1 e1 h1 => ?_
  walk_at "x"
  refine x_RefT (e1.t hT) (for_t (xs := iv ps) (fun i σ H' => ∃ pd es o2 o3 o4 o5 o6 o7, σ = [some (.ref a), some (.ref pd), o2, o3, o4, o5, o6, o7] ∧ Ex H H' ∧ H pd = none ∧ H' pd = some (.dK (kvE es)) ∧ RepD es (Wy (ps.take i)) ∧ ∀ e ∈ es, 0 ≤ e.1 ∧ e.1 ≤ ((2047 * i : Nat) : Int))
    ⟨pd0, [(0, 1)], _, _, _, _, _, _, rfl, e1, n1, h1, ⟨by simp, by simp, fun t => ?_⟩, by simp⟩ (fun _ _ _ _ ⟨_, _, _, _, _, _, _, _, _, e, _⟩ => e.t hT) ?_ ?_)
  · rw [List.take_zero, Wy_nil]
    show (if (0 : Int) = t then 1 else 0) + 0 = _
    by_cases ht : t = 0
    · rw [if_pos ht, if_pos ht.symm] <;> rfl
    · rw [if_neg ht, if_neg (fun z => ht z.symm)] <;> rfl
  · rintro i x σ HA hx ⟨pd, es, o2, o3, o4, o5, o6, o7, rfl, eA, nd, hD, rp, bd⟩
    obtain ⟨p, hpe, rfl⟩ := iv_at hx
    have hp10 := hp p (List.mem_of_getElem? hpe)
    have hil : i < ps.length := (List.getElem?_eq_some_iff.mp hpe).1
    walk_at "x"
    refine x_dnewK fun pl HB nB eB hB => ?_
    walk_at "x"
    have nl : H pl = none := eA.back nB
    have hne : pd ≠ pl := ne_of_none hD nB
    have ep : ((p : Int) + 1).toNat = p + 1 := by omega
    rw [ep]
    refine for_r (fun c σ H' => ∃ ls o4 o5 o6 o7, σ = [some (.ref a), some (.ref pd), some (.int p), some (.ref pl), o4, o5, o6, o7] ∧ Ex H H' ∧ H' pd = some (.dK (kvE es)) ∧ H' pl = some (.dK (kvE ls)) ∧ RepD ls (fun t => ((List.range c).map fun c => Wy (ps.take i) (t - ((lenN p c : Nat) : Int))).sum) ∧ ∀ e ∈ ls, 0 ≤ e.1 ∧ e.1 ≤ ((2047 * (i + 1) : Nat) : Int))
      ⟨[], _, _, _, _, rfl, eA.trans eB, eB _ _ hD, hB, ⟨by simp, by simp, fun t => rfl⟩, by simp⟩ ?_ ?_
    · rintro c σ HC hc ⟨ls, o4, o5, o6, o7, rfl, eC, hDC, hLC, rl, bl⟩
      rw [Int.zero_add]
      obtain ⟨L, hL⟩ : ∃ L, L = lenN p c := ⟨_, rfl⟩
      have hLb : L ≤ 2047 := by rw [hL]; exact lenN_2047 hp10
      refine x_lockFor rfl hDC fun od => for_items (fun m σ H' => ∃ ls o5 o6 o7, σ = [some (.ref a), some (.ref pd), some (.int p), some (.ref pl), some (.int c), o5, o6, o7] ∧ Ex H H' ∧ H' pd = some (.frz od (.dK (kvE es))) ∧ H' pl = some (.dK (kvE ls)) ∧ RepD ls (fun t => ((List.range c).map fun c => Wy (ps.take i) (t - ((lenN p c : Nat) : Int))).sum + sumE (es.take m) (t - (L : Int))) ∧ ∀ e ∈ ls, 0 ≤ e.1 ∧ e.1 ≤ ((2047 * (i + 1) : Nat) : Int))
        ⟨ls, _, _, _, rfl, eC.mut nd, upd_same, by rw [upd_ne (Ne.symm hne)]; exact hLC, rl.congr fun t => by rw [List.take_zero]; rfl, bl⟩ (fun _ _ _ ⟨_, _, _, _, _, _, h, _⟩ => h) ?_ ?_
      · rintro m k v T σ HD HE hk ⟨ls, o5, o6, o7, rfl, eD, hDD, hLD, rl, bl⟩ eE hTT
        obtain ⟨e, hem, rfl, rfl⟩ := at_kvE hk
        have hep := rp.pos e (List.mem_of_getElem? hem)
        have hbd := bd e (List.mem_of_getElem? hem)
        refine x_gtup2 (v := .int e.1) (SqT.of hTT) ?_
        walk_at "x"
        refine ⟨p, c, rfl, by omega, hp10, ?_⟩
        rw [← hL]
        walk_at "x"
        have hLE := eE _ _ hLD
        refine x_DG hLE ?_
        walk_at "x"
        refine x_DGo hLE ?_
        rw [getE rl]
        walk_at "x"
        obtain ⟨tot, htot⟩ : ∃ tot, tot = e.1 + (L : Int) := ⟨_, rfl⟩
        rw [← htot]
        obtain ⟨g, hg⟩ : ∃ g, g = ((List.range c).map fun c => Wy (ps.take i) (tot - ((lenN p c : Nat) : Int))).sum + sumE (es.take m) (tot - (L : Int)) := ⟨_, rfl⟩
        rw [← hg]
        have eg : (g : Int) + (e.2 : Int) = ((g + e.2 : Nat) : Int) := by omega
        rw [eg]
        have hlen := rl.len bl
        refine x_DPt hLE (by unfold kvE kvG; rw [List.length_map]; omega) ?_
        rw [show V.int ((g + e.2 : Nat) : Int) = cI (g + e.2) from rfl, kvG_put cI rl.nd]
        refine ⟨putG ls tot (g + e.2), _, _, _, rfl, (eD.trans eE).mut nl, ?_, upd_same, (rl.put tot (show 0 < g + e.2 by omega)).congr fun s => ?_, fun f hf => ?_⟩
        · rw [upd_ne hne]
          exact eE _ _ hDD
        · rw [take_snoc hem, sumE_app]
          have e1 : sumE [e] (s - (L : Int)) = if s = tot then e.2 else 0 := by
            show (if e.1 = s - (L : Int) then e.2 else 0) + 0 = _
            by_cases hs : s = tot
            · rw [if_pos hs, if_pos (by omega)] <;> rfl
            · rw [if_neg hs, if_neg (by omega)] <;> rfl
          rw [e1]
          by_cases hs : s = tot
          · rw [if_pos hs, if_pos hs, hs, hg]
            omega
          · rw [if_neg hs, if_neg hs]
            omega
        · rcases putG_mem hf with h | h
          · exact bl f h.1
          · rw [h]
            show 0 ≤ tot ∧ tot ≤ _
            omega
      · rintro σ HD ⟨ls, o5, o6, o7, rfl, eD, hDD, hLD, rl, bl⟩
        refine ⟨hDD, ls, _, _, _, _, rfl, eD.mut nd, upd_same, by rw [upd_ne (Ne.symm hne)]; exact hLD, rl.congr fun t => ?_, bl⟩
        have hkl : (kvE es).length = es.length := by unfold kvE kvG; rw [List.length_map]
        rw [hkl, List.take_length, rp.sum, List.range_succ, List.map_append, List.sum_append, hL]
        simp
    · rintro σ HC ⟨ls, o4, o5, o6, o7, rfl, eC, hDC, hLC, rl, bl⟩
      walk_at "x"
      refine ⟨pl, ls, _, _, _, _, _, _, rfl, eC, nl, hLC, rl.congr fun t => ?_, bl⟩
      rw [take_snoc hpe, Wy_snoc]
  · rintro σ HA ⟨pd, es, o2, o3, o4, o5, o6, o7, rfl, eA, nd, hD, rp, bd⟩
    rw [iv_len, List.take_length] at rp
    walk_at "x"
    exact q pd HA es eA nd hD rp
def sp_possible_totals (K : PySem.W.Frag) : Sp := fun vs H Q _ => ∃ (a : Addr) (ps : List Nat), vs = [.ref a] ∧ SqT K H a (iv ps) ∧ (∀ p ∈ ps, p ≤ 10) ∧ ps.length ≤ 6 ∧ ∀ p H' (ys : List Int), Ex H H' → H p = none → H' p = some (.lst (ys.map V.int)) → ys.Pairwise (· < ·) → (∀ t, t ∈ ys ↔ 0 < Wy ps t) → Q (.ref p) H'
theorem len_possible_totals {K : PySem.W.Frag} : ∀ vs H Q E, sp_possible_totals K vs H Q E → vs.length = 1 := by
  rintro _ H Q E ⟨_, _, rfl, _⟩
  rfl
/-- possible_totals: powers -/
def t_possible_totals (K : PySem.W.Frag) : TS := (tRet (tCB rSortDA (tCons (tCall (sp_totals K) [] E0 (tCons (tVar 0) tNil)) tNil)))

theorem run_possible_totals {K : PySem.W.Frag} {vs : List V} {H : Hp} {Q : VK} {E : XK} (h : sp_possible_totals K vs H Q E) : t_possible_totals K { nx := fun _ H' => Q .non H', rt := Q } (start ["powers"] vs) H := by
  obtain ⟨a, ps, rfl, hT, hp, hl, q⟩ := h
  unfold t_possible_totals
  walk_at "x"
  refine ⟨a, ps, rfl, hT, hp, hl, fun d H1 es e1 n1 h1 rp => ?_⟩
  walk_at "x"
  refine x_sortDA h1 (kvG_keys cI es) fun ys p H2 hperm hsort n2 e2 h2 => ?_
  exact q p H2 ys (e1.trans e2) (e1.back n2) h2 (asc_of hperm hsort rp.nd) fun t => by rw [hperm.mem_iff, rp.mem]
def sp_count_dots (K : PySem.W.Frag) : Sp := fun vs H Q _ => ∃ (a : Addr) (ps : List Nat) (t : Int), vs = [.ref a, .int t] ∧ SqT K H a (iv ps) ∧ (∀ p ∈ ps, p ≤ 10) ∧ ps.length ≤ 6 ∧ ∀ H', Ex H H' → Q (.int (Wy ps t : Nat)) H'
theorem len_count_dots {K : PySem.W.Frag} : ∀ vs H Q E, sp_count_dots K vs H Q E → vs.length = 2 := by
  rintro _ H Q E ⟨_, _, _, rfl, _⟩
  rfl
/-- count_dots: powers total -/
def t_count_dots (K : PySem.W.Frag) : TS := (tRet (tDGet2 (tCall (sp_totals K) [] E0 (tCons (tVar 0) tNil)) (tVar 1) (tC (.int 0))))

theorem run_count_dots {K : PySem.W.Frag} {vs : List V} {H : Hp} {Q : VK} {E : XK} (h : sp_count_dots K vs H Q E) : t_count_dots K { nx := fun _ H' => Q .non H', rt := Q } (start ["powers", "total"] vs) H := by
  obtain ⟨a, ps, t, rfl, hT, hp, hl, q⟩ := h
  unfold t_count_dots
  walk_at "x"
  refine ⟨a, ps, rfl, hT, hp, hl, fun d H1 es e1 n1 h1 rp => ?_⟩
  refine x_DG h1 ?_
  walk_at "x"
  refine x_DGo h1 ?_
  rw [getE rp]
  exact q _ e1
/-! ### all_dots -/
/-- the rows ahead of the place i -/
def Rw (ps : List Nat) (t : Int) (i : Nat) : List (List Nat) := if i = 0 then [[]] else (allD (ps.take i)).filter (canD ps i t)
theorem Rw_ok {ps : List Nat} {t : Int} {i : Nat} {r : List Nat} (hi : i ≤ ps.length) (h : r ∈ Rw ps t i) : r.length = i ∧ ∀ j p c : Nat, ps[j]? = some p → r[j]? = some c → c ≤ p := by
  have h1 : r ∈ allD (ps.take i) := by
    unfold Rw at h
    by_cases h0 : i = 0
    · rw [if_pos h0] at h
      rw [h0]
      exact h
    · rw [if_neg h0] at h
      exact (List.mem_filter.mp h).1
  obtain ⟨a, b⟩ := allD_ok _ r h1
  rw [List.length_take, Nat.min_eq_left hi] at a
  refine ⟨a, fun j p c h2 h3 => b j p c ?_ h3⟩
  have hj : j < r.length := (List.getElem?_eq_some_iff.mp h3).1
  rw [List.getElem?_take_of_lt (by omega)]
  exact h2
theorem Rw_step {ps : List Nat} {t : Int} {i p : Nat} (hp : ps[i]? = some p) : (Rw ps t i).flatMap (fun r => ((List.range (p + 1)).filter fun c => canD ps (i + 1) t (r ++ [c])).map fun c => r ++ [c]) = Rw ps t (i + 1) := by
  have e : Rw ps t (i + 1) = (allD (ps.take (i + 1))).filter (canD ps (i + 1) t) := if_neg (by omega)
  rw [e]
  unfold Rw
  by_cases h0 : i = 0
  · subst h0
    rw [if_pos rfl, ← canD_step hp (fun _ => true) (fun _ _ => rfl)] <;> rfl
  · rw [if_neg h0]
    exact canD_step hp _ fun _ h => h
theorem Rw_end (ps : List Nat) (t : Int) : (Rw ps t ps.length).filter (fun r => decide (((totD ps r : Nat) : Int) = t)) = due ps t := by
  unfold Rw
  by_cases h0 : ps.length = 0
  · rw [if_pos h0]
    have : ps = [] := List.eq_nil_of_length_eq_zero h0
    subst this
    rfl
  · rw [if_neg h0, List.take_length]
    exact due_end ps t _ fun _ h => h
theorem Rw_len {ps : List Nat} {t : Int} (hp : ∀ p ∈ ps, p ≤ 6) (hl : ps.length ≤ 4) (i : Nat) : (Rw ps t i).length ≤ 2401 := by
  unfold Rw
  by_cases h0 : i = 0
  · rw [if_pos h0]
    decide
  · rw [if_neg h0]
    have h1 := allD_len (ps.take i) fun p h => hp p (List.mem_of_mem_take h)
    have h2 := List.length_filter_le (canD ps i t) (allD (ps.take i))
    have h3 : 7 ^ (ps.take i).length ≤ 7 ^ 4 := Nat.pow_le_pow_right (by decide) (by rw [List.length_take]; omega)
    have h4 : (7 : Nat) ^ 4 = 2401 := by decide
    omega
/-- sum([length_of(one, dots) for one, dots in zip(powers, row)]) -/
theorem lc_tot {K : PySem.W.Frag} {σ : L2.St} {H : Hp} {Q : VK} {a b : Addr} {ps r : List Nat} {i j : Nat} {te : TE} {vs : List Nat} (hT : SqT K H a (iv ps)) (hR : SqT K H b (iv r)) (hl : r.length ≤ 1000) (hp : ∀ p ∈ ps, p ≤ 10) (hc : ∀ j p c : Nat, ps[j]? = some p → r[j]? = some c → c ≤ p)
    (hw : ∀ x y, wipe (((wipe σ vs).set i (some x)).set j (some y)) vs = wipe σ vs) (hte : ∀ (x y : Nat) (H' : Hp) (R : VK), y ≤ x → x ≤ 10 → R (.int (lenN x y : Nat)) H' → te (((wipe σ vs).set i (some (.int (x : Nat)))).set j (some (.int (y : Nat)))) H' R)
    (hd : ∀ p H', Ex H H' → H p = none → H' p = some (.lst (zI ((List.range (min ps.length r.length)).map fun i => lenN (ps.getD i 0) (r.getD i 0)) |>.map V.int)) → Q (.ref p) H') : LcIt (RZ.ItzT K a b) (gTup K 2 (gCons (gName i) (gCons (gName j) gNil))) tYes te vs σ H Q := by
  refine lcZT (min ps.length r.length) (fun i => .int (lenN (ps.getD i 0) (r.getD i 0) : Nat)) hT hR (by rw [iv_len, iv_len]) (by omega) (fun n x y T H2 hx hy e2 hT2 R k => ?_) fun p2 zs H2 e2 n2 h2 r2 => ?_
  · obtain ⟨p, h1, rfl⟩ := iv_at hx
    obtain ⟨c, h2, rfl⟩ := iv_at hy
    refine x_gtup2 (SqT.of hT2) ?_
    refine x_gN ?_
    refine x_gN ?_
    refine ⟨hw _ _, ?_⟩
    refine hte p c _ _ (hc n p c h1 h2) (hp p (List.mem_of_getElem? h1)) ?_
    have e9 : lenN p c = lenN (ps.getD n 0) (r.getD n 0) := by
      rw [List.getD_eq_getElem?_getD, List.getD_eq_getElem?_getD, h1, h2] <;> rfl
    rw [e9]
    exact k _ _ (Ex.refl _) (.int _)
  · have e8 : ((List.range (min ps.length r.length)).map fun i => D.int (lenN (ps.getD i 0) (r.getD i 0) : Nat)) = dI (zI ((List.range (min ps.length r.length)).map fun i => lenN (ps.getD i 0) (r.getD i 0))) := by
      unfold dI zI
      rw [List.map_map, List.map_map] <;> rfl
    rw [e8] at r2
    rw [r2.ints_inv] at h2
    exact hd p2 H2 e2 n2 h2
theorem zI_sum (l : List Nat) : (zI l).sum = ((l.sum : Nat) : Int) := sum_nat l
def sp_all_dots (K : PySem.W.Frag) : SpG := fun vs H Q _ => ∃ (a : Addr) (ps : List Nat) (t : Int), vs = [.ref a, .int t] ∧ SqT K H a (iv ps) ∧ (∀ p ∈ ps, p ≤ 6) ∧ ps.length ≤ 4 ∧ ∀ ys H', Ex H H' → RpL K H' ys ((due ps t).map dT) → Q ys H'
theorem len_all_dots {K : PySem.W.Frag} : ∀ vs H Q E, sp_all_dots K vs H Q E → vs.length = 2 := by
  rintro _ H Q E ⟨_, _, _, rfl, _⟩
  rfl
/-- all_dots: powers total rows index power rest longer row dots amount one -/
def t_all_dots (K : PySem.W.Frag) : TGn := (tGThen (tPlain (tAsg (tLst (tCons (tTup tNil) tNil)) (gName 2))) (tGThen (tPlain (tFor (iEnumT K (tCons (tVar 0) tNil)) (gTup K 2 (gCons (gName 3) (gCons (gName 4) gNil))) (tSeq (tPar 5 6 (tCons (tCall (sp_totals K) [] E0 (tCons (tSl (rSlA K) (tVar 0) (tPart (tOp rPlus (tVar 3) (tC (.int 1)))) tNoPart) tNil)) (tCons (tLst tNil) tNil))) (tSeq (tFor (iList K (tVar 2)) (gName 7) (tSeq (tAsg (tCB (rSum K) (tCons (tLc (RZ.iZipA K (tCons (tVar 0) (tCons (tVar 7) tNil))) (gTup K 2 (gCons (gName 10) (gCons (gName 8) gNil))) tYes (tCall (sp_length_of K) [] E0 (tCons (tVar 10) (tCons (tVar 8) tNil))) [10, 8]) tNil)) (gName 9)) (tFor (iRng1 (tCons (tOp rPlus (tVar 4) (tC (.int 1))) tNil)) (gName 8) (tIfS (tB (tDIn (tOp rMinus (tOp rMinus (tVar 1) (tVar 9)) (tCall (sp_length_of K) [] E0 (tCons (tVar 4) (tCons (tVar 8) tNil)))) (tVar 5))) (tDrop (tBM K "list" rAppend (tVar 6) (tCons (tOp (rCatA K) (tVar 7) (tTup (tCons (tVar 8) tNil))) tNil))) tNext)))) (tAsg (tVar 6) (gName 2)))))) (tGThen (tGFor (iList K (tVar 2)) (gName 7) (tGThen (tGIf (tTest (tOp rEq (tCB (rSum K) (tCons (tLc (RZ.iZipA K (tCons (tVar 0) (tCons (tVar 7) tNil))) (gTup K 2 (gCons (gName 10) (gCons (gName 8) gNil))) tYes (tCall (sp_length_of K) [] E0 (tCons (tVar 10) (tCons (tVar 8) tNil))) [10, 8]) tNil)) (tVar 1))) (tGThen (tGYield (tVar 7)) tG0) tG0) tG0)) tG0)))

theorem run_all_dots {K : PySem.W.Frag} {vs : List V} {H : Hp} {Q : List V → Hp → Prop} {E : XK} (h : sp_all_dots K vs H Q E) : t_all_dots K { nx := fun ys _ H' => Q ys H', rt := fun ys v H' => v = .non ∧ Q ys H' } [] (start ["powers", "total", "rows", "index", "power", "rest", "longer", "row", "dots", "amount", "one"] vs) H := by
  obtain ⟨a, ps, t, rfl, hT, hp, hl, q⟩ := h
  have hp10 : ∀ p ∈ ps, p ≤ 10 := fun p h => by have := hp p h; omega
  unfold t_all_dots
  refine g_then (g_plain ?_)
  walk_at "x"
  refine x_newT rfl fun pe H1 n1 e1 h1 _ => ?_
  walk_at "x"
  refine x_newL rfl fun pr0 H2 n2 e2 h2 _ => ?_
  dsimp only
  refine g_then (g_plain ?_)
  walk_at "x"
  have e12 := e1.trans e2
  refine x_EnT (e12.t hT) (for_en (xs := iv ps) (fun i σ H' => ∃ pr xs o3 o4 o5 o6 o7 o8 o9, σ = [some (.ref a), some (.int t), some (.ref pr), o3, o4, o5, o6, o7, o8, o9, none] ∧ Ex H H' ∧ H' pr = some (.lst xs) ∧ RpL K H' xs ((Rw ps t i).map dT) ∧ i ≤ ps.length)
    ⟨pr0, _, _, _, _, _, _, _, _, rfl, e12, h2, .cons (.tup (SqT.of (e2 _ _ h1)) .nil) .nil, Nat.zero_le _⟩ (fun _ _ _ ⟨_, _, _, _, _, _, _, _, _, _, e, _⟩ => e.t hT) ?_ ?_)
  · rintro i x T σ HA HB hx ⟨pr, xs, o3, o4, o5, o6, o7, o8, o9, rfl, eA, hR, rR, hil⟩ eB hTT
    obtain ⟨p, hpe, rfl⟩ := iv_at hx
    have hp6 := hp p (List.mem_of_getElem? hpe)
    have hilt : i < ps.length := (List.getElem?_eq_some_iff.mp hpe).1
    refine x_gtup2 (SqT.of hTT) ?_
    walk_at "x"
    have eAB := eA.trans eB
    refine x_slA (eAB.t hT) fun ps2 HC eC hC => ?_
    have e1i : (i : Int) + 1 = ((i + 1 : Nat) : Int) := by omega
    rw [e1i, cut_from] at hC
    have hdr : (iv ps).drop (i + 1) = iv (ps.drop (i + 1)) := by unfold iv; rw [List.map_drop]
    rw [hdr] at hC
    walk_at "x"
    refine ⟨ps2, ps.drop (i + 1), rfl, hC, fun p h => hp10 p (List.mem_of_mem_drop h), by rw [List.length_drop]; omega, fun pd HD es eD nD hD rp => ?_⟩
    walk_at "x"
    refine x_newL rfl fun pl HE nE eE hE _ => ?_
    walk_at "x"
    have eCE := (eC.trans eD).trans eE
    have eAE := eAB.trans eCE
    have nl : H pl = none := ((eAB.trans eC).trans eD).back nE
    have hRE : HE pr = some (.lst xs) := eCE _ _ (eB _ _ hR)
    have rRE := (rR.mono eB).mono eCE
    have hDE := eE _ _ hD
    have hprl : pr ≠ pl := ne_of_none (((eB.trans eC).trans eD) _ _ hR) nE
    have hpdl : pd ≠ pl := ne_of_none hD nE
    have hxl : xs.length = (Rw ps t i).length := by rw [rR.len, List.length_map]
    obtain ⟨F, hF⟩ : ∃ F : List Nat → List (List Nat), F = fun r => ((List.range (p + 1)).filter fun c => canD ps (i + 1) t (r ++ [c])).map fun c => r ++ [c] := ⟨_, rfl⟩
    have hFl : ((Rw ps t i).flatMap F).length ≤ 2401 := by rw [hF, Rw_step hpe]; exact Rw_len hp hl _
    refine x_RefL (SqL.of hRE) (for_l (xs := xs) (fun j σ H' => ∃ ls o7 o8 o9, σ = [some (.ref a), some (.int t), some (.ref pr), some (.int (i : Nat)), some (.int (p : Nat)), some (.ref pd), some (.ref pl), o7, o8, o9, none] ∧ Ex H H' ∧ H' pr = some (.lst xs) ∧ H' pd = some (.dK (kvE es)) ∧ H' pl = some (.lst ls) ∧ RpL K H' xs ((Rw ps t i).map dT) ∧ RpL K H' ls ((((Rw ps t i).take j).flatMap F).map dT))
      ⟨[], _, _, _, rfl, eAE, hRE, hDE, hE, rRE, .nil⟩ (fun _ _ _ _ ⟨_, _, _, _, _, _, h, _⟩ => SqL.of h) ?_ ?_)
    · rintro j x σ HF hj ⟨ls, o7, o8, o9, rfl, eF, hRF, hDF, hLF, rRF, rLF⟩
      obtain ⟨d, hd, rd⟩ := rRF.at' hj
      rw [List.getElem?_map] at hd
      obtain ⟨r, hr⟩ : ∃ r, (Rw ps t i)[j]? = some r := by
        cases e : (Rw ps t i)[j]? with
        | none =>
          rw [e] at hd
          cases hd
        | some r => exact ⟨r, rfl⟩
      rw [hr] at hd
      obtain rfl : dT r = d := Option.some.inj hd
      obtain ⟨b, rfl, hb⟩ := rd.ti
      rw [zI_iv] at hb
      obtain ⟨hrl, hrc⟩ := Rw_ok hil (List.mem_of_getElem? hr)
      walk_at "x"
      refine x_ZAT (eF.t hT) hb ?_
      refine lc_tot (eF.t hT) hb (by omega) hp10 hrc (fun _ _ => rfl) (fun x y H' R hyx hx10 k => ?_) fun p5 HG eG nG hG => ?_
      · walk_at "x"
        exact ⟨x, y, rfl, hyx, hx10, k⟩
      walk_at "x"
      refine x_sum (SqL.of hG) ?_
      rw [zI_sum, totD_range]
      walk_at "x"
      have ep : ((p : Int) + 1).toNat = p + 1 := by omega
      rw [ep]
      refine for_r (fun c σ H' => ∃ ls o8, σ = [some (.ref a), some (.int t), some (.ref pr), some (.int (i : Nat)), some (.int (p : Nat)), some (.ref pd), some (.ref pl), some (.ref b), o8, some (.int (totD ps r : Nat)), none] ∧ Ex H H' ∧ H' pr = some (.lst xs) ∧ H' pd = some (.dK (kvE es)) ∧ H' pl = some (.lst ls) ∧ Im HG H' ∧ RpL K H' ls ((((Rw ps t i).take j).flatMap F ++ ((List.range c).filter fun c => canD ps (i + 1) t (r ++ [c])).map fun c => r ++ [c]).map dT))
        ⟨ls, _, rfl, eF.trans eG, eG _ _ hRF, eG _ _ hDF, eG _ _ hLF, (Ex.refl _).im, by simpa using rLF.mono eG⟩ ?_ ?_
      · rintro c σ HH hc ⟨ls, o8, rfl, eH, hRH, hDH, hLH, iH, rLH⟩
        rw [Int.zero_add]
        walk_at "x"
        refine ⟨p, c, rfl, by omega, by omega, ?_⟩
        walk_at "x"
        refine x_DIn hDH ?_
        walk_at "x"
        have htt : totD ps (r ++ [c]) = totD ps r + lenN p c := by
          rw [← totD_take ps (r ++ [c]), List.length_append, List.length_singleton, hrl, List.take_add_one, hpe]
          show totD (ps.take i ++ [p]) (r ++ [c]) = _
          rw [totD_snoc p c (by rw [List.length_take]; omega), ← hrl, totD_take]
        have hcan : (valV (kvE es) (.inl (t - ((totD ps r : Nat) : Int) - ((lenN p c : Nat) : Int)))).isSome = canD ps (i + 1) t (r ++ [c]) := by
          unfold canD
          rw [valE rp, htt]
          have e9 : t - ((totD ps r + lenN p c : Nat) : Int) = t - ((totD ps r : Nat) : Int) - ((lenN p c : Nat) : Int) := by omega
          rw [e9]
          by_cases h0 : Wy (ps.drop (i + 1)) (t - ((totD ps r : Nat) : Int) - ((lenN p c : Nat) : Int)) = 0
          · rw [if_pos h0, h0] <;> rfl
          · rw [if_neg h0, decide_eq_true (by omega)] <;> rfl
        rw [hcan]
        have hsn : (List.range (c + 1)).filter (fun c => canD ps (i + 1) t (r ++ [c])) = (List.range c).filter (fun c => canD ps (i + 1) t (r ++ [c])) ++ (if canD ps (i + 1) t (r ++ [c]) = true then [c] else []) := by
          rw [List.range_succ, List.filter_append, List.filter_cons, List.filter_nil]
        refine b_2 (fun hy => ?_) (fun hy => ?_)
        · rw [if_pos hy] at hsn
          walk_at "x"
          refine x_app rfl hLH ?_
          walk_at "x"
          refine x_newT rfl fun p6 HI nI eI hI _ => ?_
          refine x_catA (eI.t (iH.t (eG.t hb))) (SqT.of hI) (by rw [iv_len]; simp; omega) fun p7 HJ eJ hJ => ?_
          have e6 : iv r ++ [V.int (c : Int)] = iv (r ++ [c]) := by
            unfold iv
            rw [List.map_append] <;> rfl
          rw [e6] at hJ
          have eIJ := eI.trans eJ
          have hLJ := eIJ _ _ hLH
          have hll : ls.length < 100000 := by
            rw [rLH.len, List.length_map]
            have h4 := len_take_flat F (Rw ps t i) (j + 1)
            rw [flat_snoc F hr, List.length_append] at h4
            have h5 : ((List.range c).filter fun c => canD ps (i + 1) t (r ++ [c])).length ≤ c := by
              have := List.length_filter_le (fun c => canD ps (i + 1) t (r ++ [c])) (List.range c)
              rw [List.length_range] at this
              exact this
            rw [List.length_append, List.length_map]
            omega
          refine x_App hLJ hll ?_
          have hIm := Im.set (o := .lst (ls ++ [V.ref p7])) hLJ
          refine ⟨ls ++ [.ref p7], _, rfl, (eH.trans eIJ).mut nl, ?_, ?_, upd_same, (iH.trans eIJ.im).trans hIm, ?_⟩
          · rw [upd_ne hprl]
            exact eIJ _ _ hRH
          · rw [upd_ne hpdl]
            exact eIJ _ _ hDH
          · have e5 : ((List.range c).filter (fun c => canD ps (i + 1) t (r ++ [c])) ++ [c]).map (fun c => r ++ [c]) = ((List.range c).filter (fun c => canD ps (i + 1) t (r ++ [c]))).map (fun c => r ++ [c]) ++ [r ++ [c]] := by rw [List.map_append] <;> rfl
            rw [hsn, e5, ← List.append_assoc]
            exact ((rLH.mono eIJ).im hIm).snoc1 (x := r ++ [c]) ((Rp.ti_of (by rw [zI_iv]; exact hJ)).im hIm)
        · rw [if_neg (by rw [hy]; exact Bool.false_ne_true)] at hsn
          walk_at "x"
          refine ⟨ls, _, rfl, eH, hRH, hDH, hLH, iH, ?_⟩
          rw [hsn, List.append_nil]
          exact rLH
      · rintro σ HH ⟨ls, o8, rfl, eH, hRH, hDH, hLH, iH, rLH⟩
        refine ⟨ls, _, _, _, rfl, eH, hRH, hDH, hLH, (rRF.mono eG).im iH, ?_⟩
        rw [flat_snoc F hr]
        have e9 : F r = ((List.range (p + 1)).filter fun c => canD ps (i + 1) t (r ++ [c])).map fun c => r ++ [c] := by rw [hF]
        rw [e9]
        exact rLH
    · rintro σ HF ⟨ls, o7, o8, o9, rfl, eF, hRF, hDF, hLF, rRF, rLF⟩
      rw [hxl, List.take_length, hF, Rw_step hpe] at rLF
      walk_at "x"
      exact ⟨pl, ls, _, _, _, _, _, _, _, rfl, eF, hLF, rLF, hilt⟩
  · rintro σ HA ⟨pr, xs, o3, o4, o5, o6, o7, o8, o9, rfl, eA, hR, rR, hil⟩
    rw [iv_len] at rR
    have hxl : xs.length = (Rw ps t ps.length).length := by rw [rR.len, List.length_map]
    dsimp only
    refine g_then (g_forL ?_)
    walk_at "x"
    refine x_RefL (SqL.of hR) (gfor_l (xs := xs) (fun j ys σ H' => ∃ o7, σ = [some (.ref a), some (.int t), some (.ref pr), o3, o4, o5, o6, o7, o8, o9, none] ∧ Ex HA H' ∧ RpL K H' ys ((((Rw ps t ps.length).take j).filter fun r => decide (((totD ps r : Nat) : Int) = t)).map dT)) ⟨_, rfl, Ex.refl _, .nil⟩ (fun _ _ _ _ _ ⟨_, _, e, _⟩ => SqL.of (e _ _ hR)) ?_ ?_)
    · rintro j x ys σ HB hj ⟨o7, rfl, eB, rY⟩
      obtain ⟨d, hd, rd⟩ := (rR.mono eB).at' hj
      rw [List.getElem?_map] at hd
      obtain ⟨r, hr⟩ : ∃ r, (Rw ps t ps.length)[j]? = some r := by
        cases e : (Rw ps t ps.length)[j]? with
        | none =>
          rw [e] at hd
          cases hd
        | some r => exact ⟨r, rfl⟩
      rw [hr] at hd
      obtain rfl : dT r = d := Option.some.inj hd
      obtain ⟨b, rfl, hb⟩ := rd.ti
      rw [zI_iv] at hb
      obtain ⟨hrl, hrc⟩ := Rw_ok (Nat.le_refl _) (List.mem_of_getElem? hr)
      refine x_gN ?_
      dsimp only
      refine g_then (g_if ?_)
      walk_at "x"
      refine x_ZAT ((eA.trans eB).t hT) hb ?_
      refine lc_tot ((eA.trans eB).t hT) hb (by omega) hp10 hrc (fun _ _ => rfl) (fun x y H' R hyx hx10 k => ?_) fun p5 HG eG nG hG => ?_
      · walk_at "x"
        exact ⟨x, y, rfl, hyx, hx10, k⟩
      walk_at "x"
      refine x_sum (SqL.of hG) ?_
      rw [zI_sum, totD_range]
      walk_at "x"
      have hyl : ys.length ≤ 2401 := by
        rw [rY.len, List.length_map]
        have h1 := List.length_filter_le (fun r => decide (((totD ps r : Nat) : Int) = t)) ((Rw ps t ps.length).take j)
        have h2 := Rw_len (t := t) hp hl ps.length
        rw [List.length_take] at h1
        omega
      have hsn : ((Rw ps t ps.length).take (j + 1)).filter (fun r => decide (((totD ps r : Nat) : Int) = t)) = ((Rw ps t ps.length).take j).filter (fun r => decide (((totD ps r : Nat) : Int) = t)) ++ (if decide (((totD ps r : Nat) : Int) = t) = true then [r] else []) := by
        rw [take_snoc hr, List.filter_append, List.filter_cons, List.filter_nil]
      refine b_2 (fun hy => ?_) (fun hy => ?_)
      · rw [if_pos hy] at hsn
        dsimp only
        refine g_then (g_yield (by omega) ?_)
        walk_at "x"
        dsimp only
        refine g_nil ?_
        dsimp only
        refine g_nil ?_
        refine ⟨_, rfl, eB.trans eG, ?_⟩
        rw [hsn]
        exact (rY.mono eG).snoc1 (x := r) (Rp.ti_of (by rw [zI_iv]; exact eG.t hb))
      · rw [if_neg (by rw [hy]; exact Bool.false_ne_true)] at hsn
        dsimp only
        refine g_nil ?_
        dsimp only
        refine g_nil ?_
        refine ⟨_, rfl, eB.trans eG, ?_⟩
        rw [hsn, List.append_nil]
        exact rY.mono eG
    · rintro ys σ HB ⟨o7, rfl, eB, rY⟩
      rw [hxl, List.take_length, Rw_end] at rY
      dsimp only
      refine g_nil ?_
      exact q ys HB (eA.trans eB) rY
end Xl

namespace Xl
open PySem PySem.Spec PyProof.Rows L2
local macro_rules | `(tactic| walk_at "x1") => `(tactic| first
  | ((with_reducible show tVar _ _ _ _); refine x_var rfl ?_)
  | (with_reducible refine x_c ?_)
  | (with_reducible refine x_II ?_)
  | ((with_reducible refine x_sd ?_ ?_); (first | (· first | exact trivial | decide | omega | exact .inl ⟨by omega, by omega⟩ | exact .inr ⟨by omega, by omega⟩ | exact ⟨by omega, by omega⟩ | exact ⟨by decide, by decide, by decide⟩) | rotate_left))
  | (with_reducible refine x_asB ?_)
  | (with_reducible refine x_seq ?_)
  | (with_reducible refine x_asgN ?_)
  | (with_reducible refine x_gN ?_)
  | (with_reducible refine x_asg ?_)
  | (with_reducible refine x_drop ?_)
  | (with_reducible refine x_ret ?_)
  | (with_reducible refine x_retN ?_)
  | (with_reducible refine x_next ?_)
  | (with_reducible refine x_if ?_)
  | (with_reducible refine x_brk ?_)
  | (with_reducible refine x_cont ?_)
  | (with_reducible refine x_opI0 ?_)
  | (with_reducible refine x_opI ?_)
  | (with_reducible refine x_opEq ?_)
  | (with_reducible refine x_opNe ?_)
  | (with_reducible refine x_op ?_)
  | (with_reducible refine x_chain ?_)
  | (with_reducible refine x_unI ?_)
  | (with_reducible refine x_gsub ?_)
  | (with_reducible refine x_callN ?_)
  | ((with_reducible show Cn _ _ _ _ _); refine x_Cn rfl rfl ?_)
  | (with_reducible refine x_dget ?_)
  | (with_reducible refine x_din ?_)
  | (with_reducible refine x_dni ?_)
  | (with_reducible refine x_dput ?_)
  | (with_reducible refine x_lc2L ?_)
  | (with_reducible refine x_sl ?_)
  | (with_reducible refine x_noPart ?_)
  | (with_reducible refine x_part ?_)
  | (with_reducible refine x_asO ?_)
  | (with_reducible refine x_rI0 ?_)
  | (with_reducible refine x_rI ?_)
  | (with_reducible refine x_eqI ?_)
  | (with_reducible refine x_neI ?_)
  | (with_reducible refine x_eqS ?_)
  | (with_reducible refine x_neS ?_)
  | (with_reducible refine x_eqB ?_)
  | (with_reducible refine x_neB ?_)
  | (with_reducible refine x_tst ?_)
  | (with_reducible refine x_tB ?_)
  | (with_reducible refine x_and ?_)
  | (with_reducible refine x_or ?_)
  | (with_reducible refine x_not ?_)
  | (with_reducible refine x_andV ?_)
  | (with_reducible refine x_orV ?_)
  | (with_reducible refine x_notV ?_)
  | (with_reducible refine x_ifE ?_)
  | (with_reducible refine x_nilA ?_)
  | (with_reducible refine x_consA ?_)
  | (with_reducible refine x_tup ?_)
  | (with_reducible refine x_lst ?_)
  | (with_reducible refine x_call ?_)
  | (with_reducible refine x_callD ?_)
  | (with_reducible refine x_cb ?_)
  | (with_reducible refine x_min2 ?_)
  | (with_reducible refine x_max2 ?_)
  | (with_reducible refine x_par ?_)
  | (with_reducible refine x_Par ?_)
  | (with_reducible refine x_par3 ?_)
  | (with_reducible refine x_Par3 ?_)
  | ((with_reducible show tAug _ _ _ _ _ _); refine x_aug rfl ?_)
  | (with_reducible refine x_ipI ?_)
  | (with_reducible refine x_forR1 ?_)
  | (with_reducible refine x_forR2 ?_)
  | (with_reducible refine x_forL ?_)
  | (with_reducible refine x_forT ?_)
  | (with_reducible refine x_lcL ?_)
  | (with_reducible refine x_lcT ?_)
  | (with_reducible refine x_lcR1 ?_)
  | (with_reducible refine x_lcR2 ?_)
  | ((with_reducible refine x_R1 ?_ ?_); (first | (· first | decide | omega) | rotate_left))
  | ((with_reducible refine x_R2 ?_ ?_); (first | (· first | decide | omega) | rotate_left))
  | (with_reducible refine x_yes ?_)
  | (with_reducible refine b_t rfl ?_)
  | (with_reducible refine b_f rfl ?_))
local macro_rules | `(tactic| walk_at "x") => `(tactic| repeat walk_at "x1")
local macro_rules | `(tactic| walk_at "bf") => `(tactic| refine b_f (by first | exact decide_eq_false (by omega) | (simp; done) | (simp; omega)) ?_)
local macro_rules | `(tactic| walk_at "bt") => `(tactic| refine b_t (by first | exact decide_eq_true (by omega) | (simp; done) | (simp; omega)) ?_)

/-! ### _law_cell -/
def sp_law_cell (K : PySem.W.Frag) : Sp := fun vs H Q _ => ∃ (a : Addr) (ns : List Int) (i : Int), vs = [.ref a, .int i] ∧ SqL K H a (ns.map V.int) ∧ 0 ≤ i ∧ i ≤ 1000 ∧ ns.length ≤ 63 ∧ ∀ c : Int, Q (.int c) H
theorem len_law_cell {K : PySem.W.Frag} : ∀ vs H Q E, sp_law_cell K vs H Q E → vs.length = 2 := by
  rintro _ H Q E ⟨a, ns, i, rfl, _⟩
  rfl
/-- _law_cell: script index -/
def t_law_cell (K : PySem.W.Frag) : TS := (tSeq (tIfS (tTest (tOp rLt (tVar 1) (tCB (rLenQ K) (tCons (tVar 0) tNil)))) (tRet (tOp (rIxL K) (tVar 0) (tVar 1))) tNext) (tSeq (tIfS (tTest (tOp rEq (tCB (rLenQ K) (tCons (tVar 0) tNil)) (tC (.int 0)))) (tRet (tOp rPlus (tOp rMul (tC (.int 7919)) (tVar 1)) (tC (.int 101)))) tNext) (tRet (tOp rPlus (tOp rMod (tOp (rIxL K) (tVar 0) (tOp rMod (tVar 1) (tCB (rLenQ K) (tCons (tVar 0) tNil)))) (tC (.int 1000003))) (tOp rMul (tC (.int 7919)) (tVar 1))))))

theorem run_law_cell {K : PySem.W.Frag} {vs : List V} {H : Hp} {Q : VK} {E : XK} (h : sp_law_cell K vs H Q E) : t_law_cell K { nx := fun _ H' => Q .non H', rt := Q } (start ["script", "index"] vs) H := by
  obtain ⟨a, ns, i, rfl, hS, h0, h1, hn, q⟩ := h
  have ix : ∀ {j : Int}, 0 ≤ j → j < (ns.length : Int) → ∃ c, atI (ns.map V.int) j = some (.int c) := fun {j} g1 g2 => by
    have hl : j.toNat < ns.length := by omega
    exact ⟨ns[j.toNat], atI_n g1 (by rw [List.getElem?_map, List.getElem?_eq_getElem hl]; rfl)⟩
  unfold t_law_cell
  walk_at "x"
  refine x_lenL hS ?_
  rw [List.length_map]
  walk_at "x"
  refine b_d (fun hl => ?_) (fun hl => ?_)
  · walk_at "x"
    obtain ⟨c, hc⟩ := ix h0 hl
    exact x_ixL hS hc (q c)
  · walk_at "x"
    refine x_lenL hS ?_
    rw [List.length_map]
    walk_at "x"
    refine b_d (fun hz => ?_) (fun hz => ?_)
    · walk_at "x"
      exact q _
    · walk_at "x"
      refine x_lenL hS ?_
      rw [List.length_map]
      walk_at "x"
      have hp : (0 : Int) < (ns.length : Int) := by omega
      obtain ⟨c, hc⟩ := ix (Int.emod_nonneg i (by omega)) (Int.emod_lt_of_pos i hp)
      refine x_ixL hS hc ?_
      walk_at "x"
      exact q _
/-! ### _law_digits -/
def sp_law_digits (K : PySem.W.Frag) : Sp := fun vs H Q _ => ∃ (a : Addr) (ns : List Int) (i n b : Int), vs = [.ref a, .int i, .int n, .int b] ∧ SqL K H a (ns.map V.int) ∧ 0 ≤ i ∧ i ≤ 1000 ∧ ns.length ≤ 63 ∧ 0 ≤ n ∧ n ≤ 1000 ∧ 0 < b ∧ b < 1000000 ∧
  ∀ p H' (ds : List Int), Ex H H' → H p = none → H' p = some (.lst (ds.map V.int)) → (ds.length : Int) = n → (∀ d ∈ ds, 0 ≤ d ∧ d < b) → Q (.ref p) H'
theorem len_law_digits {K : PySem.W.Frag} : ∀ vs H Q E, sp_law_digits K vs H Q E → vs.length = 4 := by
  rintro _ H Q E ⟨a, ns, i, n, b, rfl, _⟩
  rfl
def primes8 : List Int := [2147483647, 2147483629, 2147483587, 2147483579, 2147483563, 2147483549, 2147483543, 2147483497]
theorem prime_at (j : Int) : ∃ p : Int, atI (primes8.map V.int) (j % 8) = some (.int p) ∧ 0 < p ∧ p ≤ 2147483647 := by
  have g1 : 0 ≤ j % 8 := Int.emod_nonneg j (by decide)
  have g2 : j % 8 < 8 := Int.emod_lt_of_pos j (by decide)
  have key : ∀ m : Nat, m < 8 → ∃ p : Int, (primes8.map V.int)[m]? = some (.int p) ∧ 0 < p ∧ p ≤ 2147483647 := by
    intro m hm
    match m, hm with
    | 0, _ => exact ⟨_, rfl, by decide, by decide⟩
    | 1, _ => exact ⟨_, rfl, by decide, by decide⟩
    | 2, _ => exact ⟨_, rfl, by decide, by decide⟩
    | 3, _ => exact ⟨_, rfl, by decide, by decide⟩
    | 4, _ => exact ⟨_, rfl, by decide, by decide⟩
    | 5, _ => exact ⟨_, rfl, by decide, by decide⟩
    | 6, _ => exact ⟨_, rfl, by decide, by decide⟩
    | 7, _ => exact ⟨_, rfl, by decide, by decide⟩
  obtain ⟨p, h1, h2⟩ := key (j % 8).toNat (by omega)
  exact ⟨p, atI_n g1 h1, h2⟩
/-- _law_digits: script index count base primes cell rest digits k mixed -/
def t_law_digits (K : PySem.W.Frag) : TS := (tSeq (tAsg (tTup (tCons (tC (.int 2147483647)) (tCons (tC (.int 2147483629)) (tCons (tC (.int 2147483587)) (tCons (tC (.int 2147483579)) (tCons (tC (.int 2147483563)) (tCons (tC (.int 2147483549)) (tCons (tC (.int 2147483543)) (tCons (tC (.int 2147483497)) tNil))))))))) (gName 4)) (tSeq (tAsg (tCall (sp_law_cell K) [] E0 (tCons (tVar 0) (tCons (tVar 1) tNil))) (gName 5)) (tSeq (tAsg (tIf (tTest (tOp rGe (tVar 5) (tOp rPow (tC (.int 10)) (tC (.int 18))))) (tVar 5) (tC (.int 0))) (gName 6)) (tSeq (tAsg (tLst tNil) (gName 7)) (tSeq (tFor (iRng1 (tCons (tVar 2) tNil)) (gName 8) (tSeq (tAsg (tOp rMul (tOp rMod (tVar 5) (tOp (rIxT K) (tVar 4) (tOp rMod (tVar 8) (tC (.int 8))))) (tOp rPlus (tC (.int 48271)) (tOp rMul (tOp rMul (tC (.int 2)) (tVar 8)) (tVar 8)))) (gName 9)) (tSeq (tAsg (tOp rPlus (tOp rPlus (tVar 9) (tOp rMul (tOp rMul (tC (.int 7919)) (tOp rPlus (tVar 8) (tC (.int 1)))) (tOp rPlus (tVar 8) (tC (.int 1))))) (tOp rMul (tC (.int 104729)) (tVar 1))) (gName 9)) (tSeq (tAsg (tOp rMod (tVar 9) (tOp (rIxT K) (tVar 4) (tOp rMod (tOp rPlus (tOp rMul (tC (.int 3)) (tVar 8)) (tVar 1)) (tC (.int 8))))) (gName 9)) (tSeq (tAsg (tOp rMod (tOp rMul (tOp rMul (tVar 9) (tVar 9)) (tVar 9)) (tOp (rIxT K) (tVar 4) (tOp rMod (tOp rPlus (tVar 8) (tC (.int 5))) (tC (.int 8))))) (gName 9)) (tSeq (tIfS (tTest (tOp rGt (tVar 6) (tC (.int 0)))) (tAsg (tVar 6) (gName 9)) tNext) (tSeq (tDrop (tBM K "list" rAppend (tVar 7) (tCons (tOp rMod (tVar 9) (tVar 3)) tNil))) (tAsg (tOp rDiv (tVar 6) (tVar 3)) (gName 6))))))))) (tRet (tVar 7)))))))

theorem cmul_l {i j : Int} (h : 0 ≤ i) (h2 : i ≤ 4294967296) : CMul i j := .inl ⟨by omega, by omega⟩
theorem cmul_r {i j : Int} (h : 0 ≤ j) (h2 : j ≤ 4294967296) : CMul i j := .inr ⟨by omega, by omega⟩
theorem run_law_digits {K : PySem.W.Frag} {vs : List V} {H : Hp} {Q : VK} {E : XK} (h : sp_law_digits K vs H Q E) : t_law_digits K { nx := fun _ H' => Q .non H', rt := Q } (start ["script", "index", "count", "base", "primes", "cell", "rest", "digits", "k", "mixed"] vs) H := by
  obtain ⟨a, ns, i, n, b, rfl, hS, h0, h1, hn, n0, n1, b0, b1, q⟩ := h
  unfold t_law_digits
  walk_at "x"
  refine x_newT rfl fun pt H1 np e1 h1' _ => ?_
  walk_at "x"
  refine ⟨a, ns, i, rfl, e1.l hS, h0, h1, hn, fun c => ?_⟩
  walk_at "x"
  refine b_joinV (fun v => ∃ r : Int, v = .int r) ?k (fun _ R kR => ?a) (fun _ R kR => ?b)
  case a => (walk_at "x"; exact kR _ ⟨_, rfl⟩)
  case b => (walk_at "x"; exact kR _ ⟨_, rfl⟩)
  rintro _ ⟨r, rfl⟩
  walk_at "x"
  refine x_newL rfl fun l H2 nl e2 hl _ => ?_
  have nlH : H l = none := e1.back nl
  walk_at "x"
  refine for_r (fun j σ H' => ∃ (r : Int) (ds : List Int) (o1 o2 : Option V), σ = [some (.ref a), some (.int i), some (.int n), some (.int b), some (.ref pt), some (.int c), some (.int r), some (.ref l), o1, o2] ∧ Ex H1 H' ∧ H' l = some (.lst (ds.map V.int)) ∧ ds.length = j ∧ ∀ d ∈ ds, 0 ≤ d ∧ d < b) ?_ ?_ ?_
  · exact ⟨r, [], none, none, rfl, e2, hl, rfl, by simp⟩
  · rintro j σ H' hj ⟨r, ds, o1, o2, rfl, eH, hL, hd, hb⟩
    have hP : SqT K H' pt (primes8.map V.int) := eH.t (SqT.of h1')
    have hjn : (j : Int) < n := by omega
    rw [Int.zero_add]
    walk_at "x"
    obtain ⟨p1, hp1, p1a, p1b⟩ := prime_at (j : Int)
    refine x_ixT hP hp1 ?_
    have m1 := Int.emod_nonneg c (show p1 ≠ 0 by omega)
    have m1' := Int.emod_lt_of_pos c p1a
    walk_at "x"
    obtain ⟨p2, hp2, p2a, p2b⟩ := prime_at (3 * (j : Int) + i)
    refine x_ixT hP hp2 ?_
    walk_at "x"
    obtain ⟨p3, hp3, p3a, p3b⟩ := prime_at ((j : Int) + 5)
    refine x_ixT hP hp3 ?_
    walk_at "x"
    · refine s_joinS (fun σ' => ∃ m : Int, σ' = [some (.ref a), some (.int i), some (.int n), some (.int b), some (.ref pt), some (.int c), some (.int r), some (.ref l), some (.int j), some (.int m)]) ?k2 (fun _ nx' kR => ?a2) (fun _ nx' kR => ?b2)
      case a2 => (walk_at "x"; exact kR _ ⟨_, rfl⟩)
      case b2 => (walk_at "x"; exact kR _ ⟨_, rfl⟩)
      rintro _ ⟨m, rfl⟩
      walk_at "x"
      refine x_app rfl hL ?_
      walk_at "x"
      refine x_App hL (by rw [List.length_map]; omega) ?_
      walk_at "x"
      · refine ⟨_, ds ++ [m % b], _, _, rfl, eH.mut nl, ?_, ?_, ?_⟩
        · rw [upd_same, List.map_append] <;> rfl
        · rw [List.length_append, List.length_singleton, hd]
        · intro d hm
          rcases List.mem_append.mp hm with hm | hm
          · exact hb d hm
          · rw [List.mem_singleton.mp hm]
            exact ⟨Int.emod_nonneg _ (by omega), Int.emod_lt_of_pos _ b0⟩
    all_goals exact cmul_r (Int.emod_nonneg _ (by omega)) (Int.le_trans (Int.le_of_lt (Int.emod_lt_of_pos _ (by assumption))) (by omega))
  · rintro σ H' ⟨r, ds, o1, o2, rfl, eH, hL, hd, hb⟩
    walk_at "x"
    exact q l H' ds (e1.trans eH) nlH hL (by omega) hb
theorem dig {ds : List Int} {b : Int} (hb : ∀ d ∈ ds, 0 ≤ d ∧ d < b) {i : Nat} (hi : i < ds.length) : ∃ d : Nat, atI (ds.map V.int) (i : Int) = some (.int (d : Int)) ∧ (d : Int) < b := by
  have h := hb ds[i] (List.getElem_mem hi)
  refine ⟨ds[i].toNat, atI_n (by omega) ?_, by omega⟩
  rw [Int.toNat_natCast, List.getElem?_map, List.getElem?_eq_getElem hi, Int.toNat_of_nonneg h.1] <;> rfl
end Xl

namespace Xl
open PySem PySem.Spec PyProof.Rows L2
local macro_rules | `(tactic| walk_at "x1") => `(tactic| first
  | ((with_reducible show tVar _ _ _ _); refine x_var rfl ?_)
  | (with_reducible refine x_c ?_)
  | (with_reducible refine x_II ?_)
  | ((with_reducible refine x_sd ?_ ?_); (first | (· first | exact trivial | decide | omega | exact .inl ⟨by omega, by omega⟩ | exact .inr ⟨by omega, by omega⟩ | exact ⟨by omega, by omega⟩ | exact ⟨by decide, by decide, by decide⟩) | rotate_left))
  | (with_reducible refine x_asB ?_)
  | (with_reducible refine x_seq ?_)
  | (with_reducible refine x_asgN ?_)
  | (with_reducible refine x_gN ?_)
  | (with_reducible refine x_asg ?_)
  | (with_reducible refine x_drop ?_)
  | (with_reducible refine x_ret ?_)
  | (with_reducible refine x_retN ?_)
  | (with_reducible refine x_next ?_)
  | (with_reducible refine x_if ?_)
  | (with_reducible refine x_brk ?_)
  | (with_reducible refine x_cont ?_)
  | (with_reducible refine x_opI0 ?_)
  | (with_reducible refine x_opI ?_)
  | (with_reducible refine x_opEq ?_)
  | (with_reducible refine x_opNe ?_)
  | (with_reducible refine x_op ?_)
  | (with_reducible refine x_chain ?_)
  | (with_reducible refine x_unI ?_)
  | (with_reducible refine x_gsub ?_)
  | (with_reducible refine x_callN ?_)
  | ((with_reducible show Cn _ _ _ _ _); refine x_Cn rfl rfl ?_)
  | (with_reducible refine x_dget ?_)
  | (with_reducible refine x_din ?_)
  | (with_reducible refine x_dni ?_)
  | (with_reducible refine x_dput ?_)
  | (with_reducible refine x_lc2L ?_)
  | (with_reducible refine x_sl ?_)
  | (with_reducible refine x_noPart ?_)
  | (with_reducible refine x_part ?_)
  | (with_reducible refine x_asO ?_)
  | (with_reducible refine x_rI0 ?_)
  | (with_reducible refine x_rI ?_)
  | (with_reducible refine x_eqI ?_)
  | (with_reducible refine x_neI ?_)
  | (with_reducible refine x_eqS ?_)
  | (with_reducible refine x_neS ?_)
  | (with_reducible refine x_eqB ?_)
  | (with_reducible refine x_neB ?_)
  | (with_reducible refine x_tst ?_)
  | (with_reducible refine x_tB ?_)
  | (with_reducible refine x_and ?_)
  | (with_reducible refine x_or ?_)
  | (with_reducible refine x_not ?_)
  | (with_reducible refine x_andV ?_)
  | (with_reducible refine x_orV ?_)
  | (with_reducible refine x_notV ?_)
  | (with_reducible refine x_ifE ?_)
  | (with_reducible refine x_nilA ?_)
  | (with_reducible refine x_consA ?_)
  | (with_reducible refine x_tup ?_)
  | (with_reducible refine x_lst ?_)
  | (with_reducible refine x_call ?_)
  | (with_reducible refine x_callD ?_)
  | (with_reducible refine x_cb ?_)
  | (with_reducible refine x_min2 ?_)
  | (with_reducible refine x_max2 ?_)
  | (with_reducible refine x_par ?_)
  | (with_reducible refine x_Par ?_)
  | (with_reducible refine x_par3 ?_)
  | (with_reducible refine x_Par3 ?_)
  | ((with_reducible show tAug _ _ _ _ _ _); refine x_aug rfl ?_)
  | (with_reducible refine x_ipI ?_)
  | (with_reducible refine x_forR1 ?_)
  | (with_reducible refine x_forR2 ?_)
  | (with_reducible refine x_forL ?_)
  | (with_reducible refine x_forT ?_)
  | (with_reducible refine x_lcL ?_)
  | (with_reducible refine x_lcT ?_)
  | (with_reducible refine x_lcR1 ?_)
  | (with_reducible refine x_lcR2 ?_)
  | ((with_reducible refine x_R1 ?_ ?_); (first | (· first | decide | omega) | rotate_left))
  | ((with_reducible refine x_R2 ?_ ?_); (first | (· first | decide | omega) | rotate_left))
  | (with_reducible refine x_yes ?_)
  | (with_reducible refine b_t rfl ?_)
  | (with_reducible refine b_f rfl ?_))
local macro_rules | `(tactic| walk_at "x") => `(tactic| repeat walk_at "x1")
local macro_rules | `(tactic| walk_at "bf") => `(tactic| refine b_f (by first | exact decide_eq_false (by omega) | (simp; done) | (simp; omega)) ?_)
local macro_rules | `(tactic| walk_at "bt") => `(tactic| refine b_t (by first | exact decide_eq_true (by omega) | (simp; done) | (simp; omega)) ?_)

/-! ### _law_power, _law_size -/
def sp_law_power (K : PySem.W.Frag) : Sp := fun vs H Q _ => ∃ n : Nat, vs = [.int n] ∧ n ≤ 40 ∧ Q (.int ((2 ^ n : Nat) : Int)) H
theorem len_law_power {K : PySem.W.Frag} : ∀ vs H Q E, sp_law_power K vs H Q E → vs.length = 1 := by
  rintro _ H Q E ⟨a, rfl, _⟩
  rfl
/-- _law_power: exponent found turn -/
def t_law_power (K : PySem.W.Frag) : TS := (tSeq (tAsg (tC (.int 1)) (gName 1)) (tSeq (tFor (iRng1 (tCons (tVar 0) tNil)) (gName 2) (tAsg (tOp rMul (tC (.int 2)) (tVar 1)) (gName 1))) (tRet (tVar 1))))

theorem run_law_power {K : PySem.W.Frag} {vs : List V} {H : Hp} {Q : VK} {E : XK} (h : sp_law_power K vs H Q E) : t_law_power K { nx := fun _ H' => Q .non H', rt := Q } (start ["exponent", "found", "turn"] vs) H := by
  obtain ⟨n, rfl, hn, q⟩ := h
  unfold t_law_power
  walk_at "x"
  rw [Int.toNat_natCast]
  refine for_r (fun i σ H' => H' = H ∧ ∃ o, σ = [some (.int n), some (.int ((2 ^ i : Nat) : Int)), o]) ⟨rfl, none, rfl⟩ ?_ ?_
  · rintro i σ H' hi ⟨eH, o, rfl⟩
    walk_at "x"
    refine ⟨eH, some (.int (0 + (i : Int))), ?_⟩
    have e : (2 : Int) * ((2 ^ i : Nat) : Int) = ((2 ^ (i + 1) : Nat) : Int) := by rw [Nat.pow_succ]; omega
    rw [e] <;> rfl
  · rintro σ H' ⟨rfl, o, rfl⟩
    walk_at "x"
    exact q
def sp_law_size (K : PySem.W.Frag) : Sp := fun vs H Q _ => ∃ p c : Nat, vs = [.int p, .int c] ∧ c ≤ p ∧ p ≤ 10 ∧ Q (.int (lenN p c)) H
theorem len_law_size {K : PySem.W.Frag} : ∀ vs H Q E, sp_law_size K vs H Q E → vs.length = 2 := by
  rintro _ H Q E ⟨a, b, rfl, _⟩
  rfl
/-- _law_size: power points found exponent -/
def t_law_size (K : PySem.W.Frag) : TS := (tSeq (tAsg (tC (.int 0)) (gName 2)) (tSeq (tFor (iRng2 (tCons (tOp rMinus (tVar 0) (tVar 1)) (tCons (tOp rPlus (tVar 0) (tC (.int 1))) tNil))) (gName 3) (tAsg (tOp rPlus (tVar 2) (tCall (sp_law_power K) [] E0 (tCons (tVar 3) tNil))) (gName 2))) (tRet (tVar 2))))

theorem run_law_size {K : PySem.W.Frag} {vs : List V} {H : Hp} {Q : VK} {E : XK} (h : sp_law_size K vs H Q E) : t_law_size K { nx := fun _ H' => Q .non H', rt := Q } (start ["power", "points", "found", "exponent"] vs) H := by
  obtain ⟨p, c, rfl, hc, hp, q⟩ := h
  unfold t_law_size
  walk_at "x"
  have e1 : (p : Int) - (c : Int) = ((p - c : Nat) : Int) := by omega
  have en : ((p : Int) + 1 - (((p - c : Nat) : Int))).toNat = c + 1 := by omega
  rw [e1, en]
  refine for_r (fun i σ H' => H' = H ∧ ∃ o, σ = [some (.int p), some (.int c), some (.int ((2 ^ (p - c + i) - 2 ^ (p - c) : Nat) : Int)), o]) ⟨rfl, none, by simp; rfl⟩ ?_ ?_
  · rintro i σ H' hi ⟨eH, o, rfl⟩
    subst eH
    walk_at "x"
    have e2 : (((p - c : Nat) : Int)) + (i : Int) = ((p - c + i : Nat) : Int) := by omega
    rw [e2]
    refine ⟨p - c + i, rfl, by omega, ?_⟩
    walk_at "x"
    refine ⟨rfl, some (.int ((p - c + i : Nat) : Int)), ?_⟩
    have e3 : ((2 ^ (p - c + i) - 2 ^ (p - c) : Nat) : Int) + ((2 ^ (p - c + i) : Nat) : Int) = ((2 ^ (p - c + (i + 1)) - 2 ^ (p - c) : Nat) : Int) := by
      have h1 : 2 ^ (p - c) ≤ 2 ^ (p - c + i) := Nat.pow_le_pow_right (by decide) (by omega)
      have h2 : 2 ^ (p - c + (i + 1)) = 2 * 2 ^ (p - c + i) := by rw [← Nat.add_assoc, Nat.pow_succ]; omega
      omega
    rw [e3] <;> rfl
  · rintro σ H' ⟨rfl, o, rfl⟩
    walk_at "x"
    have e4 : p - c + (c + 1) = p + 1 := by omega
    rw [e4]
    exact q
/-! ### _law_sizes -/
def sp_law_sizes (K : PySem.W.Frag) : Sp := fun vs H Q _ => ∃ d l : Nat, vs = [.int d, .int l] ∧ d ≤ 10 ∧ l ≤ 10 ∧
  ∀ (zs : List Int) p H', zs.Perm (szsI d l) → zs.Pairwise (· ≤ ·) → Ex H H' → H p = none → H' p = some (.lst (zs.map V.int)) → Q (.ref p) H'
theorem len_law_sizes {K : PySem.W.Frag} : ∀ vs H Q E, sp_law_sizes K vs H Q E → vs.length = 2 := by
  rintro _ H Q E ⟨a, b, rfl, _⟩
  rfl
/-- _law_sizes: most top found power points -/
def t_law_sizes (K : PySem.W.Frag) : TS := (tSeq (tAsg (tLst tNil) (gName 2)) (tSeq (tFor (iRng1 (tCons (tOp rPlus (tVar 1) (tC (.int 1))) tNil)) (gName 3) (tAsg (tOp rCat (tVar 2) (tLc (iRng1 (tCons (tOp rPlus (tCB rMin2 (tCons (tVar 0) (tCons (tVar 3) tNil))) (tC (.int 1))) tNil)) (gName 4) tYes (tCall (sp_law_size K) [] E0 (tCons (tVar 3) (tCons (tVar 4) tNil))) [4])) (gName 2))) (tRet (tCB (rSortedI K) (tCons (tVar 2) tNil)))))

def szsP (d p : Nat) : List Int := ((List.range p).flatMap fun p => (List.range (min d p + 1)).map fun c => ((lenN p c : Nat) : Int))
theorem szsP_succ (d p : Nat) : szsP d (p + 1) = szsP d p ++ (List.range (min d p + 1)).map fun c => ((lenN p c : Nat) : Int) := by
  unfold szsP
  rw [List.range_succ (n := p), List.flatMap_append]
  simp
theorem szsP_end (d l : Nat) : szsP d (l + 1) = szsI d l := by
  unfold szsP szsI szs notesL
  simp only [List.map_flatMap, List.map_map]
  rfl
theorem szsP_len {d p : Nat} (hp : p ≤ 11) : (szsP d p).length ≤ 200 := by
  unfold szsP
  have h1 : ((List.range p).flatMap fun p => (List.range (min d p + 1)).map fun c => ((lenN p c : Nat) : Int)).length ≤ (List.range p).length * 11 := len_flatMap_le fun q hq => by
    rw [List.length_map, List.length_range]
    have := List.mem_range.mp hq
    omega
  rw [List.length_range] at h1
  omega
theorem run_law_sizes {K : PySem.W.Frag} {vs : List V} {H : Hp} {Q : VK} {E : XK} (h : sp_law_sizes K vs H Q E) : t_law_sizes K { nx := fun _ H' => Q .non H', rt := Q } (start ["most", "top", "found", "power", "points"] vs) H := by
  obtain ⟨d, l, rfl, hd, hl, q⟩ := h
  unfold t_law_sizes
  walk_at "x"
  refine x_newL rfl fun p H1 np e1 h1 _ => ?_
  walk_at "x"
  have en : ((l : Int) + 1).toNat = l + 1 := by omega
  rw [en]
  refine for_r (fun i σ H' => ∃ (p : Addr) (o1 : Option V), σ = [some (.int d), some (.int l), some (.ref p), o1, none] ∧ Ex H H' ∧ H' p = some (.lst ((szsP d i).map V.int))) ?_ ?_ ?_
  · exact ⟨p, none, rfl, e1, h1⟩
  · rintro i σ H' hi ⟨p, o1, rfl, eH, hp⟩
    rw [Int.zero_add]
    walk_at "x"
    have em : ((if (i : Int) < (d : Int) then (i : Int) else (d : Int)) + 1).toNat = min d i + 1 := by
      split <;> omega
    rw [em]
    refine lcR (K := K) (fun c => some (.int (lenN i c : Nat))) (by omega) (fun c H2 hc e2 => turn_all fun R k => ⟨rfl, ?_⟩) fun pl ys H2 e2 n2 h2 r2 => ?_
    · rw [Int.zero_add]
      walk_at "x"
      exact ⟨i, c, rfl, by omega, by omega, k _ _ (Ex.refl _) (.int _)⟩
    · rw [fm_some] at r2
      have r3 : RpL K H2 ys (dI ((List.range (min d i + 1)).map fun c => ((lenN i c : Nat) : Int))) := by
        unfold dI
        rw [List.map_map]
        exact r2
      rw [r3.ints_inv] at h2
      have hz := szsP_len (d := d) (p := i) (by omega)
      refine x_rCat (e2 _ _ hp) h2 (by simp only [List.length_map, List.length_range]; omega) fun pc H3 n3 e3 h3 => ?_
      refine ⟨pc, _, rfl, (eH.trans e2).trans e3, ?_⟩
      rw [h3, szsP_succ, List.map_append]
  · rintro σ H' ⟨p, o1, rfl, eH, hp⟩
    walk_at "x"
    rw [szsP_end] at hp
    exact x_sorted (SqL.of hp) fun zs ps H2 hperm hs n2 e2 h2 => q zs ps H2 hperm hs (eH.trans e2) (eH.back n2) h2
end Xl

/-! xs[::k]; max of a tuple; range with a step; in a list of tuples (own work). -/
namespace Xl
open PySem PySem.Spec PyProof.Rows L2
local macro_rules | `(tactic| walk_at "x1") => `(tactic| first
  | ((with_reducible show tVar _ _ _ _); refine x_var rfl ?_)
  | (with_reducible refine x_c ?_)
  | (with_reducible refine x_II ?_)
  | ((with_reducible refine x_sd ?_ ?_); (first | (· first | exact trivial | decide | omega | exact .inl ⟨by omega, by omega⟩ | exact .inr ⟨by omega, by omega⟩ | exact ⟨by omega, by omega⟩ | exact ⟨by decide, by decide, by decide⟩) | rotate_left))
  | (with_reducible refine x_asB ?_)
  | (with_reducible refine x_seq ?_)
  | (with_reducible refine x_asgN ?_)
  | (with_reducible refine x_gN ?_)
  | (with_reducible refine x_asg ?_)
  | (with_reducible refine x_drop ?_)
  | (with_reducible refine x_ret ?_)
  | (with_reducible refine x_retN ?_)
  | (with_reducible refine x_next ?_)
  | (with_reducible refine x_if ?_)
  | (with_reducible refine x_brk ?_)
  | (with_reducible refine x_cont ?_)
  | (with_reducible refine x_opI0 ?_)
  | (with_reducible refine x_opI ?_)
  | (with_reducible refine x_opEq ?_)
  | (with_reducible refine x_opNe ?_)
  | (with_reducible refine x_op ?_)
  | (with_reducible refine x_chain ?_)
  | (with_reducible refine x_unI ?_)
  | (with_reducible refine x_gsub ?_)
  | (with_reducible refine x_callN ?_)
  | ((with_reducible show Cn _ _ _ _ _); refine x_Cn rfl rfl ?_)
  | (with_reducible refine x_dget ?_)
  | (with_reducible refine x_din ?_)
  | (with_reducible refine x_dni ?_)
  | (with_reducible refine x_dput ?_)
  | (with_reducible refine x_lc2L ?_)
  | (with_reducible refine x_sl ?_)
  | (with_reducible refine x_noPart ?_)
  | (with_reducible refine x_part ?_)
  | (with_reducible refine x_asO ?_)
  | (with_reducible refine x_rI0 ?_)
  | (with_reducible refine x_rI ?_)
  | (with_reducible refine x_eqI ?_)
  | (with_reducible refine x_neI ?_)
  | (with_reducible refine x_eqS ?_)
  | (with_reducible refine x_neS ?_)
  | (with_reducible refine x_eqB ?_)
  | (with_reducible refine x_neB ?_)
  | (with_reducible refine x_tst ?_)
  | (with_reducible refine x_tB ?_)
  | (with_reducible refine x_and ?_)
  | (with_reducible refine x_or ?_)
  | (with_reducible refine x_not ?_)
  | (with_reducible refine x_andV ?_)
  | (with_reducible refine x_orV ?_)
  | (with_reducible refine x_notV ?_)
  | (with_reducible refine x_ifE ?_)
  | (with_reducible refine x_nilA ?_)
  | (with_reducible refine x_consA ?_)
  | (with_reducible refine x_tup ?_)
  | (with_reducible refine x_lst ?_)
  | (with_reducible refine x_call ?_)
  | (with_reducible refine x_callD ?_)
  | (with_reducible refine x_cb ?_)
  | (with_reducible refine x_min2 ?_)
  | (with_reducible refine x_max2 ?_)
  | (with_reducible refine x_par ?_)
  | (with_reducible refine x_Par ?_)
  | (with_reducible refine x_par3 ?_)
  | (with_reducible refine x_Par3 ?_)
  | ((with_reducible show tAug _ _ _ _ _ _); refine x_aug rfl ?_)
  | (with_reducible refine x_ipI ?_)
  | (with_reducible refine x_forR1 ?_)
  | (with_reducible refine x_forR2 ?_)
  | (with_reducible refine x_forL ?_)
  | (with_reducible refine x_forT ?_)
  | (with_reducible refine x_lcL ?_)
  | (with_reducible refine x_lcT ?_)
  | (with_reducible refine x_lcR1 ?_)
  | (with_reducible refine x_lcR2 ?_)
  | ((with_reducible refine x_R1 ?_ ?_); (first | (· first | decide | omega) | rotate_left))
  | ((with_reducible refine x_R2 ?_ ?_); (first | (· first | decide | omega) | rotate_left))
  | (with_reducible refine x_yes ?_)
  | (with_reducible refine b_t rfl ?_)
  | (with_reducible refine b_f rfl ?_))
local macro_rules | `(tactic| walk_at "x") => `(tactic| repeat walk_at "x1")
local macro_rules | `(tactic| walk_at "bf") => `(tactic| refine b_f (by first | exact decide_eq_false (by omega) | (simp; done) | (simp; omega)) ?_)
local macro_rules | `(tactic| walk_at "bt") => `(tactic| refine b_t (by first | exact decide_eq_true (by omega) | (simp; done) | (simp; omega)) ?_)

local macro_rules | `(tactic| walk_at "x1") => `(tactic| first
  | (with_reducible refine x_mk ?_)
  | (with_reducible refine x_mkV ?_)
  | (with_reducible refine x_cmeth ?_)
  | (with_reducible refine x_isC ?_)
  | (with_reducible refine x_prop ?_)
  | (with_reducible refine x_fld ?_)
  | (with_reducible refine x_sfld ?_)
  | (with_reducible refine x_fmtD ?_))
local macro_rules | `(tactic| walk_at "x1") => `(tactic| with_reducible refine x_revL ?_)

theorem hu65 {A : Around} {k : Nat} (hr : Room k A) : A.units + 65 < cLine := by
  have := hr.un
  omega
theorem vals_pick {xs : List V} {us : List Value} (r : Vals xs us) : ∀ idx : List Nat, Vals (idx.filterMap fun i => xs[i]?) (idx.filterMap fun i => us[i]?)
  | [] => .nil
  | i :: l => by
    rw [List.filterMap_cons, List.filterMap_cons]
    cases e : xs[i]? with
    | none =>
      have hl := r.length
      have : us[i]? = none := by
        rw [List.getElem?_eq_none_iff] at e ⊢
        omega
      rw [this]
      exact vals_pick r l
    | some x =>
      obtain ⟨u, hu, ru⟩ := r.get e
      rw [hu]
      exact .cons ru (vals_pick r l)
/-- xs[::k], k from 1: some of the items -/
def StepL (K : PySem.W.Frag) (x y : V) (H : Hp) (Q : VK) : Prop := ∃ a xs k, x = .ref a ∧ y = .int k ∧ SqL K H a xs ∧ 0 < k ∧ ∀ p ys, (∀ v ∈ ys, v ∈ xs) → ys.length ≤ xs.length → H p = none → Q (.ref p) (upd H p (.lst ys))
def tStepL (K : PySem.W.Frag) (te tk : TE) : TE := fun σ H Q => te σ H fun x H1 => tk σ H1 fun y H2 => StepL K x y H2 Q
theorem pe_stepL {X : Cx} {e ek : Expr} {te tk : TE} {p3 pos : Pos} (he : PE X e te) (hk : PE X ek tk) : PE X (.Subscript e (.Slice none none (some ek) p3) pos) (tStepL X.K te tk) := by
  refine ⟨fun pins s σ H Q I h => ?_⟩
  refine Subscript_ (thn (he.run pins s σ H _ I h) fun v s1 ⟨x, H1, I1, r1, q1⟩ => ?_)
  have hst : PO X (some ek) (tPart tk) := po_some hk
  refine wpAny_Slice (thn (po_none.run pins s1 σ H1 (fun o H2 => o = none ∧ H2 = H1) I1 ⟨rfl, rfl⟩) fun vl s2 ⟨l, H2, I2, pl, el, e2⟩ => ?_)
  subst el e2
  refine thn (po_none.run pins s2 σ H2 (fun o H3 => o = none ∧ H3 = H2) I2 ⟨rfl, rfl⟩) fun vu s3 ⟨u, H3, I3, pu, eu, e3⟩ => ?_
  subst eu e3
  have e9 : (fun y H4 => StepL X.K x y H4 Q) = fun y H4 => ∃ a xs k, x = .ref a ∧ y = .int k ∧ SqL X.K H4 a xs ∧ 0 < k ∧ ∀ p ys, (∀ v ∈ ys, v ∈ xs) → ys.length ≤ xs.length → H4 p = none → Q (.ref p) (upd H4 p (.lst ys)) := rfl
  have q2 : tk σ H3 fun y H4 => ∃ i, y = .int i ∧ ∃ a xs, x = .ref a ∧ SqL X.K H4 a xs ∧ 0 < i ∧ ∀ p ys, (∀ v ∈ ys, v ∈ xs) → ys.length ≤ xs.length → H4 p = none → Q (.ref p) (upd H4 p (.lst ys)) := by
    have e10 : (fun y H4 => StepL X.K x y H4 Q) = fun y H4 => ∃ i, y = .int i ∧ ∃ a xs, x = .ref a ∧ SqL X.K H4 a xs ∧ 0 < i ∧ ∀ p ys, (∀ v ∈ ys, v ∈ xs) → ys.length ≤ xs.length → H4 p = none → Q (.ref p) (upd H4 p (.lst ys)) := by
      funext y H4
      apply propext
      constructor
      · rintro ⟨a, xs, k, h1, h2, h3⟩
        exact ⟨k, h2, a, xs, h1, h3⟩
      · rintro ⟨k, h2, a, xs, h1, h3⟩
        exact ⟨a, xs, k, h1, h2, h3⟩
    rw [← e10]
    exact q1
  refine thn (hst.run pins s3 σ H3 (fun o H4 => ∃ i, o = some i ∧ ∃ a xs, x = .ref a ∧ SqL X.K H4 a xs ∧ 0 < i ∧ ∀ p ys, (∀ v ∈ ys, v ∈ xs) → ys.length ≤ xs.length → H4 p = none → Q (.ref p) (upd H4 p (.lst ys))) I3 ?_) fun vs s4 ⟨o, H4, I4, ps, i, eo, a, xs, ex, hx, hi, q⟩ => ?_
  · have e11 : (fun y H4 => ∃ i, y = V.int i ∧ ∃ a xs, x = .ref a ∧ SqL X.K H4 a xs ∧ 0 < i ∧ ∀ p ys, (∀ v ∈ ys, v ∈ xs) → ys.length ≤ xs.length → H4 p = none → Q (.ref p) (upd H4 p (.lst ys))) =
        fun y H4 => ∃ i, y = V.int i ∧ ∃ i', (some i : Option Int) = some i' ∧ ∃ a xs, x = .ref a ∧ SqL X.K H4 a xs ∧ 0 < i' ∧ ∀ p ys, (∀ v ∈ ys, v ∈ xs) → ys.length ≤ xs.length → H4 p = none → Q (.ref p) (upd H4 p (.lst ys)) := by
      funext y H4
      apply propext
      constructor
      · rintro ⟨i, h1, h2⟩
        exact ⟨i, h1, i, rfl, h2⟩
      · rintro ⟨i, h1, i', h2, h3⟩
        cases h2
        exact ⟨i, h1, h3⟩
    rw [e11] at q2
    exact q2
  subst eo ex
  cases r1
  have I5 : Inv X pins σ H4 { s4 with heap := s4.heap.push { cls := .type "slice", data := .fields #[vl, vu, vs] } } := I4.kept (t' := s4.toks) fun b ob q => Heap.get?_push_of_some _ q
  obtain ⟨its, r, ht, hz⟩ := I5.list hx
  have hlen := r.length
  show wpAny (model X.prog X.w) X.A (subscriptTail e (.Slice none none (some ek) p3) (.ref a) (.ref s4.heap.objs.size)) (EP X pins σ Q) X.xe { s4 with heap := s4.heap.push { cls := .type "slice", data := .fields #[vl, vu, vs] } }
  refine tail_any (ops := [.ref a, .ref s4.heap.objs.size]) ht.isList.typeIs (PySem.slot_list_getitem.lookup) ?_ (by with_unfolding_all rfl)
  refine wpAny_getItem_list_slice ht.isList (Heap.IsSliceOf.new _ vl vu vs) pl pu ps (fun z => by cases z; omega) ?_ (by rw [List.size_toArray]; omega)
  have hp := slicePick_size_le its.toArray none none (some i)
  obtain ⟨idx, hidx⟩ : ∃ idx : List Nat, slicePick its.toArray none none (some i) = (idx.filterMap fun j => its[j]?).toArray := by
    unfold slicePick
    exact ⟨_, congrArg List.toArray (fm_congr fun j _ => by rw [List.getElem?_toArray])⟩
  rw [hidx] at hp ⊢
  have hv := vals_pick r idx
  have hl2 : (idx.filterMap fun j => xs[j]?).length ≤ xs.length := by
    rw [hv.length]
    rw [List.size_toArray, List.size_toArray] at hp
    omega
  refine ⟨.ref _, _, I5.laid (t' := s4.toks) (o := .lst (idx.filterMap fun j => xs[j]?)) (fun b ob q => Heap.get?_push_of_some _ q) (Nat.le_refl _) ?_, rfl, q _ _ (fun v hv => ?_) hl2 (I5.hok.fresh (Nat.le_refl _))⟩
  · exact ⟨Nat.le_trans hl2 hz, _, 0, hv, Heap.get?_push_size _ rfl⟩
  · obtain ⟨j, _, hj⟩ := List.mem_filterMap.mp hv
    exact List.mem_of_getElem? hj
section
variable {K : PySem.W.Frag} {σ : L2.St} {H : Hp} {Q : VK} {te tk : TE} {al : TA} {g : TG} {t : TS} {De : Ends}
theorem x_stepL (h : te σ H fun x H1 => tk σ H1 fun y H2 => StepL K x y H2 Q) : tStepL K te tk σ H Q := h
theorem x_StepL {a : Addr} {xs : List V} {k : Int} (h : SqL K H a xs) (hk : 0 < k) (q : ∀ p ys H1, (∀ v ∈ ys, v ∈ xs) → ys.length ≤ xs.length → H p = none → Ex H H1 → H1 p = some (.lst ys) → Q (.ref p) H1) : StepL K (.ref a) (.int k) H Q :=
  ⟨a, xs, k, rfl, rfl, h, hk, fun p ys h1 h2 hp => q p ys _ h1 h2 hp (Ex.new hp) upd_same⟩
/-! range with a step -/
def R3 (vs : List V) (k : Int → Int → Int → Nat → Prop) : Prop := ∃ (i j c : Int) (n : Nat), vs = [.int i, .int j, .int c] ∧ RgC i j c n ∧ k i j c n
theorem x_forR3 (h : al σ H fun vs H1 => R3 vs fun i j c n => ForIt (Itc i c n) g t De σ H1) : tFor (iRng3 al) g t De σ H := by
  have e : (fun vs H1 => R3 vs fun i j c n => ForIt (Itc i c n) g t De σ H1) = fun vs H1 => ∃ (i j c : Int) (n : Nat), vs = [.int i, .int j, .int c] ∧ RgC i j c n ∧ ForIt (Itc i c n) g t De σ H1 := rfl
  rw [e] at h
  exact h
theorem rg_up {i j c : Int} {n : Nat} (hc : 0 < c ∧ c ≤ 1000) (hi : 0 ≤ i ∧ i ≤ 100000) (hj : i < j ∧ j ≤ 100000) (hn : (n : Int) = (j - i - 1) / c + 1) : RgC i j c n := by
  refine ⟨by omega, by omega, ?_, ?_⟩
  · have hd : (j - i - 1) / c ≤ j - i - 1 := Int.ediv_le_self _ (by omega)
    have hd0 : 0 ≤ (j - i - 1) / c := Int.ediv_nonneg (by omega) (by omega)
    have hR : Builtin.Range.rangeSize i j c = (j - i - 1) / c + 1 := by
      unfold Builtin.Range.rangeSize
      rw [if_pos (by omega), if_pos (by omega)]
    unfold Builtin.Range.small
    rw [hR]
    simp only [Builtin.Range.rangeFitsLong, Bool.and_eq_true, Bool.or_eq_true, decide_eq_true_eq]
    split
    · simp only [Bool.and_eq_true, decide_eq_true_eq]
      omega
    · omega
  · unfold Builtin.Range.rangeSize
    rw [if_pos (by omega), if_pos (by omega), hn]
theorem for_r3 {lo c : Int} {n j : Nat} {nx bk ct : L2.St → Hp → Prop} {rt : VK} (Pv : Nat → L2.St → Hp → Prop) (h0 : Pv 0 σ H)
    (hs : ∀ i σ H, i < n → Pv i σ H → t ⟨Pv (i + 1), rt, nx, Pv (i + 1)⟩ (σ.set j (some (.int (lo + (i : Nat) * c)))) H) (hd : ∀ σ H, Pv n σ H → nx σ H) : ForIt (Itc lo c n) (gName j) t ⟨nx, rt, bk, ct⟩ σ H :=
  for_rangeC (D := ⟨nx, rt, bk, ct⟩) Pv h0 hs hd
/-! in a list of data -/
theorem x_inD {x y : V} {d : PyData} {ds : List PyData} (h1 : Dp K H x d) (h2 : Dp K H y (.list ds)) (s1 : SeqAt.shaped d = true) (s2 : SeqAt.shaped (.list ds) = true) (q : Q (.bl (ds.any fun z => PyData.eqv z d)) H) : rInD K x y H Q := ⟨d, ds, h1, h2, s1, s2, q⟩
theorem x_notInD {x y : V} {d : PyData} {ds : List PyData} (h1 : Dp K H x d) (h2 : Dp K H y (.list ds)) (s1 : SeqAt.shaped d = true) (s2 : SeqAt.shaped (.list ds) = true) (q : Q (.bl (!ds.any fun z => PyData.eqv z d)) H) : rNotInD K x y H Q := ⟨d, ds, h1, h2, s1, s2, q⟩
end
/-- the data of a list of tuples of ints -/
def pT (ns : List Int) : PyData := .tuple (pI ns)
theorem canT : ∀ rr : List (List Int), PyData.canLayAll0 (rr.map pT) = true
  | [] => rfl
  | r :: rr => by
    show (PyData.canLay0 (.tuple (pI r)) && PyData.canLayAll0 (rr.map pT)) = true
    rw [canT rr]
    have e1 : PyData.canLay0 (.tuple (pI r)) = true := by
      unfold PyData.canLay0
      exact canI r
    rw [e1] <;> rfl
theorem depthT : ∀ rr : List (List Int), PyData.depthAll (rr.map pT) ≤ 1
  | [] => Nat.zero_le _
  | r :: rr => by
    show max (PyData.depth (.tuple (pI r))) (PyData.depthAll (rr.map pT)) ≤ 1
    have h := depthT rr
    have e2 : PyData.depth (.tuple (pI r)) = 1 := by
      unfold PyData.depth
      rw [depthI]
    rw [e2]
    omega
theorem shapedLT (rr : List (List Int)) : SeqAt.shaped (.list (rr.map pT)) = true := by
  unfold SeqAt.shaped
  have e1 : PyData.canLay0 (.list (rr.map pT)) = true := by
    unfold PyData.canLay0
    exact canT rr
  have e2 : PyData.depth (.list (rr.map pT)) ≤ 2 := by
    unfold PyData.depth
    have := depthT rr
    omega
  rw [e1, decide_eq_true (by omega : PyData.depth (.list (rr.map pT)) ≤ 64)] <;> rfl
theorem eqvT (a b : List Int) : PyData.eqv (pT a) (pT b) = decide (a = b) := by
  unfold pT PyData.eqv
  exact eqvI a b
theorem any_T (a : List Int) : ∀ rr : List (List Int), ((rr.map pT).any fun z => PyData.eqv z (pT a)) = decide (a ∈ rr)
  | [] => by simp
  | r :: rr => by
    rw [List.map_cons, List.any_cons, any_T a rr, eqvT, Bool.eq_iff_iff, Bool.or_eq_true, decide_eq_true_eq, decide_eq_true_eq, decide_eq_true_eq, List.mem_cons]
    exact ⟨fun z => z.elim (fun z => .inl z.symm) .inr, fun z => z.elim (fun z => .inl z.symm) .inr⟩
theorem DpAll.tups {K : PySem.W.Frag} {H : Hp} : ∀ {vs : List V} {rr : List (List Int)}, RpL K H vs (rr.map fun r => D.tup (dI r)) → DpAll K H vs (rr.map pT)
  | _, [], h => by cases h; exact .nil
  | _, r :: rr, h => by
    cases h with
    | cons h1 h2 =>
      obtain ⟨a, rfl, hs⟩ := h1.ti
      exact .cons (Dp.ti hs) (DpAll.tups h2)
/-! max of a tuple of ints -/
theorem max_tup {prog : Program} {w : World} {A : Around} {E : Value → Shared → Prop} {s : Shared} {l : Addr} {its : List Value} {ns : List Int} {Q : Value → Shared → Prop} (hh : A.handled = none) (hl : s.heap.IsTuple l its.toArray) (hi : IntsAre its ns) (hne : 0 < ns.length)
    (h : ∀ h' tk M t', (∀ b o, s.heap.get? b = some o → h'.get? b = some o) → M ∈ ns → (∀ a, a ∈ ns → a ≤ M) → Q (.int M t') { s with heap := h', toks := tk }) : wpAny (model prog w) A (call (.builtin "max") [.ref l]) Q E s := by
  obtain ⟨xs, e⟩ := hi.allInts.items
  have hn : numsOf (intItems xs).toList = ns := by rw [← e]; exact hi.numsOf
  rw [nums_intItems] at hn
  subst hn
  rw [e] at hl
  have hlt : l < s.heap.objs.size := by obtain ⟨_, e, _⟩ := hl; exact Heap.lt_size e
  have hsz : 0 < xs.size := by simpa using hne
  refine call_max_walk (wpAny_pyIter_tuple hl ⟨_, _, _, _, _, _, _, rfl, Walks.tuple (A := A.in1) hh _ l (Nat.ne_of_lt hlt) (intItems xs), ⟨⟨_, Heap.get?_push_size _ rfl, rfl, rfl⟩, hl.push _⟩, fun b hb => ?_, by simpa [intItems] using hsz, CmpOf.ints_gt (numAt xs) (fun _ _ => intItems_at), fun v h' tk hv hk => ?_⟩)
  · show b < (s.heap.push _).objs.size
    rw [Heap.size_push]
    rcases List.mem_cons.mp hb with rfl | hb
    · exact Nat.lt_succ_self _
    · rcases List.mem_cons.mp hb with rfl | hb
      · exact Nat.lt_succ_of_lt hlt
      · cases hb
  · have hv' : (intItems xs)[argBest (fun i j => decide (numAt xs i > numAt xs j)) (xs.size - 1)]? = some v := by simpa [intItems] using hv
    obtain ⟨t, rfl⟩ := intItems_at hv'
    obtain ⟨h1, h2⟩ := argBest_gt (numAt xs) (xs.size - 1)
    refine h h' tk _ t (fun b o eb => hk b o (fun hb => absurd (Heap.lt_size eb) ((List.mem_singleton.mp hb) ▸ Nat.lt_irrefl _)) (Heap.get?_push_of_some _ eb)) ?_ fun a ha => ?_
    · rw [numAt_eq]
      exact PySem.getD_mem (by rw [List.length_map, Array.length_toList]; omega)
    · obtain ⟨j, hj, rfl⟩ := mem_getD ha
      rw [List.length_map, Array.length_toList] at hj
      rw [← numAt_eq]
      exact h2 j (by omega)
def rMaxT (K : PySem.W.Frag) : List V → Hp → VK → Prop := fun vs H Q => ∃ (a : Addr) (ns : List Int), vs = [V.ref a] ∧ SqT K H a (ns.map V.int) ∧ 0 < ns.length ∧ ∀ m, m ∈ ns → (∀ y, y ∈ ns → y ≤ m) → Q (.int m) H
theorem cr_maxT {X : Cx} (hc : X.calm = true) : CallR X (.builtin "max") (rMaxT X.K) := by
  intro pins s σ H vs us Q I r h
  obtain ⟨a, ns, rfl, hs, hne, q⟩ := h
  obtain ⟨its, rv, hl, _⟩ := I.tuple hs
  rw [Vals.ref1 r]
  exact max_tup (I.ok.hd hc) hl rv.ints hne fun h' tk m t' hk h1 h2 => ⟨.int _, H, I.kept hk, ⟨_, rfl⟩, q m h1 h2⟩
theorem x_maxT {K : PySem.W.Frag} {H : Hp} {Q : VK} {p : Addr} {ns : List Int} (h : SqT K H p (ns.map V.int)) (hl : 0 < ns.length) (q : ∀ m, m ∈ ns → (∀ y, y ∈ ns → y ≤ m) → Q (.int m) H) : rMaxT K [.ref p] H Q := ⟨p, ns, rfl, h, hl, q⟩
end Xl

namespace Xl
open PySem PySem.Spec PyProof.Rows L2 GenW
theorem x_revT {K : PySem.W.Frag} {te : TE} {σ : L2.St} {H : Hp} {Q : VK} (h : te σ H fun x H1 => RevT K x H1 Q) : tRevT K te σ H Q := h
local macro_rules | `(tactic| walk_at "x1") => `(tactic| first
  | ((with_reducible show tVar _ _ _ _); refine x_var rfl ?_)
  | (with_reducible refine x_c ?_)
  | (with_reducible refine x_II ?_)
  | ((with_reducible refine x_sd ?_ ?_); (first | (· first | exact trivial | decide | omega | exact .inl ⟨by omega, by omega⟩ | exact .inr ⟨by omega, by omega⟩ | exact ⟨by omega, by omega⟩ | exact ⟨by decide, by decide, by decide⟩) | rotate_left))
  | (with_reducible refine x_asB ?_)
  | (with_reducible refine x_seq ?_)
  | (with_reducible refine x_asgN ?_)
  | (with_reducible refine x_gN ?_)
  | (with_reducible refine x_asg ?_)
  | (with_reducible refine x_drop ?_)
  | (with_reducible refine x_ret ?_)
  | (with_reducible refine x_retN ?_)
  | (with_reducible refine x_next ?_)
  | (with_reducible refine x_if ?_)
  | (with_reducible refine x_brk ?_)
  | (with_reducible refine x_cont ?_)
  | (with_reducible refine x_opI0 ?_)
  | (with_reducible refine x_opI ?_)
  | (with_reducible refine x_opEq ?_)
  | (with_reducible refine x_opNe ?_)
  | (with_reducible refine x_op ?_)
  | (with_reducible refine x_chain ?_)
  | (with_reducible refine x_unI ?_)
  | (with_reducible refine x_gsub ?_)
  | (with_reducible refine x_callN ?_)
  | ((with_reducible show Cn _ _ _ _ _); refine x_Cn rfl rfl ?_)
  | (with_reducible refine x_dget ?_)
  | (with_reducible refine x_din ?_)
  | (with_reducible refine x_dni ?_)
  | (with_reducible refine x_dput ?_)
  | (with_reducible refine x_lc2L ?_)
  | (with_reducible refine x_sl ?_)
  | (with_reducible refine x_noPart ?_)
  | (with_reducible refine x_part ?_)
  | (with_reducible refine x_asO ?_)
  | (with_reducible refine x_rI0 ?_)
  | (with_reducible refine x_rI ?_)
  | (with_reducible refine x_eqI ?_)
  | (with_reducible refine x_neI ?_)
  | (with_reducible refine x_eqS ?_)
  | (with_reducible refine x_neS ?_)
  | (with_reducible refine x_eqB ?_)
  | (with_reducible refine x_neB ?_)
  | (with_reducible refine x_tst ?_)
  | (with_reducible refine x_tB ?_)
  | (with_reducible refine x_and ?_)
  | (with_reducible refine x_or ?_)
  | (with_reducible refine x_not ?_)
  | (with_reducible refine x_andV ?_)
  | (with_reducible refine x_orV ?_)
  | (with_reducible refine x_notV ?_)
  | (with_reducible refine x_ifE ?_)
  | (with_reducible refine x_nilA ?_)
  | (with_reducible refine x_consA ?_)
  | (with_reducible refine x_tup ?_)
  | (with_reducible refine x_lst ?_)
  | (with_reducible refine x_call ?_)
  | (with_reducible refine x_callD ?_)
  | (with_reducible refine x_cb ?_)
  | (with_reducible refine x_min2 ?_)
  | (with_reducible refine x_max2 ?_)
  | (with_reducible refine x_par ?_)
  | (with_reducible refine x_Par ?_)
  | (with_reducible refine x_par3 ?_)
  | (with_reducible refine x_Par3 ?_)
  | ((with_reducible show tAug _ _ _ _ _ _); refine x_aug rfl ?_)
  | (with_reducible refine x_ipI ?_)
  | (with_reducible refine x_forR1 ?_)
  | (with_reducible refine x_forR2 ?_)
  | (with_reducible refine x_forL ?_)
  | (with_reducible refine x_forT ?_)
  | (with_reducible refine x_lcL ?_)
  | (with_reducible refine x_lcT ?_)
  | (with_reducible refine x_lcR1 ?_)
  | (with_reducible refine x_lcR2 ?_)
  | ((with_reducible refine x_R1 ?_ ?_); (first | (· first | decide | omega) | rotate_left))
  | ((with_reducible refine x_R2 ?_ ?_); (first | (· first | decide | omega) | rotate_left))
  | (with_reducible refine x_yes ?_)
  | (with_reducible refine b_t rfl ?_)
  | (with_reducible refine b_f rfl ?_))
local macro_rules | `(tactic| walk_at "x") => `(tactic| repeat walk_at "x1")
local macro_rules | `(tactic| walk_at "bf") => `(tactic| refine b_f (by first | exact decide_eq_false (by omega) | (simp; done) | (simp; omega)) ?_)
local macro_rules | `(tactic| walk_at "bt") => `(tactic| refine b_t (by first | exact decide_eq_true (by omega) | (simp; done) | (simp; omega)) ?_)

local macro_rules | `(tactic| walk_at "x1") => `(tactic| first
  | (with_reducible refine x_mk ?_)
  | (with_reducible refine x_mkV ?_)
  | (with_reducible refine x_cmeth ?_)
  | (with_reducible refine x_isC ?_)
  | (with_reducible refine x_prop ?_)
  | (with_reducible refine x_fld ?_)
  | (with_reducible refine x_sfld ?_)
  | (with_reducible refine x_fmtD ?_))
local macro_rules | `(tactic| walk_at "x1") => `(tactic| with_reducible refine x_revL ?_)

local macro_rules | `(tactic| walk_at "x1") => `(tactic| first
  | (with_reducible refine x_lcZ ?_)
  | (with_reducible refine x_forE ?_)
  | (with_reducible refine x_lg ?_)
  | (with_reducible refine x_revT ?_)
  | (with_reducible refine x_dget2 ?_))
theorem row_of {K : PySem.W.Frag} {H : Hp} {xs : List V} {hs : List (List Nat)} {x : V} {j : Nat} (r : RpL K H xs (hs.map dT)) (h : xs[j]? = some x) : ∃ t a, hs[j]? = some t ∧ x = .ref a ∧ SqT K H a (iv t) := by
  obtain ⟨d, hd, rd⟩ := r.at' h
  rw [List.getElem?_map] at hd
  cases e : hs[j]? with
  | none =>
    rw [e] at hd
    cases hd
  | some t =>
    rw [e] at hd
    obtain rfl : dT t = d := Option.some.inj hd
    obtain ⟨a, rfl, ha⟩ := rd.ti
    rw [zI_iv] at ha
    exact ⟨t, a, rfl, rfl, ha⟩
theorem stepD_snoc {rows : List (List Nat)} {j p : Nat} {r : List Nat} (h : rows[j]? = some r) : stepD (rows.take (j + 1)) p = stepD (rows.take j) p ++ (List.range (p + 1)).map fun c => r ++ [c] := by
  unfold stepD
  exact flat_snoc _ h
def sp_law_all (K : PySem.W.Frag) : Sp := fun vs H Q _ => ∃ (a : Addr) (ps : List Nat), vs = [.ref a] ∧ SqT K H a (iv ps) ∧ (∀ p ∈ ps, p ≤ 6) ∧ ps.length ≤ 4 ∧ ∀ p H' ys, Ex H H' → H' p = some (.lst ys) → RpL K H' ys ((allD ps).map dT) → Q (.ref p) H'
theorem len_law_all {K : PySem.W.Frag} : ∀ vs H Q E, sp_law_all K vs H Q E → vs.length = 1 := by
  rintro _ H Q E ⟨_, _, rfl, _⟩
  rfl
/-- _law_all: powers rows power longer row points -/
def t_law_all (K : PySem.W.Frag) : TS := (tSeq (tAsg (tLst (tCons (tTup tNil) tNil)) (gName 1)) (tSeq (tFor (iTup K (tVar 0)) (gName 2) (tSeq (tAsg (tLst tNil) (gName 3)) (tSeq (tFor (iList K (tVar 1)) (gName 4) (tAsg (tOp rCat (tVar 3) (tLc (iRng1 (tCons (tOp rPlus (tVar 2) (tC (.int 1))) tNil)) (gName 5) tYes (tOp (rCatA K) (tVar 4) (tTup (tCons (tVar 5) tNil))) [5])) (gName 3))) (tAsg (tVar 3) (gName 1))))) (tRet (tVar 1))))

theorem run_law_all {K : PySem.W.Frag} {vs : List V} {H : Hp} {Q : VK} {E : XK} (h : sp_law_all K vs H Q E) : t_law_all K { nx := fun _ H' => Q .non H', rt := Q } (start ["powers", "rows", "power", "longer", "row", "points"] vs) H := by
  obtain ⟨a, ps, rfl, hT, hp, hl, q⟩ := h
  unfold t_law_all
  walk_at "x"
  refine x_newT rfl fun pe H1 n1 e1 h1 _ => ?_
  walk_at "x"
  refine x_newL rfl fun pr0 H2 n2 e2 h2 _ => ?_
  walk_at "x"
  have e12 := e1.trans e2
  refine x_RefT (e12.t hT) (for_t (xs := iv ps) (fun i σ H' => ∃ pr xs o2 o3 o4 o5, σ = [some (.ref a), some (.ref pr), o2, o3, o4, o5] ∧ Ex H H' ∧ H' pr = some (.lst xs) ∧ RpL K H' xs ((allD (ps.take i)).map dT))
    ⟨pr0, _, _, _, _, _, rfl, e12, h2, .cons (.tup (SqT.of (e2 _ _ h1)) .nil) .nil⟩ (fun _ _ _ _ ⟨_, _, _, _, _, _, _, e, _⟩ => e.t hT) ?_ ?_)
  · rintro i x σ HA hx ⟨pr, xs, o2, o3, o4, o5, rfl, eA, hR, rR⟩
    obtain ⟨p, hpe, rfl⟩ := iv_at hx
    have hp6 := hp p (List.mem_of_getElem? hpe)
    have hil := (List.getElem?_eq_some_iff.mp hpe).1
    have hst : allD (ps.take (i + 1)) = stepD (allD (ps.take i)) p := by rw [take_snoc hpe, allD_snoc]
    have hb1 := allD_len (ps.take (i + 1)) fun p h => hp p (List.mem_of_mem_take h)
    have hb2 : 7 ^ (ps.take (i + 1)).length ≤ 7 ^ 4 := Nat.pow_le_pow_right (by decide) (by rw [List.length_take]; omega)
    have hb3 : (7 : Nat) ^ 4 = 2401 := by decide
    rw [hst] at hb1
    walk_at "x"
    refine x_newL rfl fun pl0 HB nB eB hB _ => ?_
    walk_at "x"
    have hxl : xs.length = (allD (ps.take i)).length := by rw [rR.len, List.length_map]
    refine x_RefL (SqL.of (eB _ _ hR)) (for_l (xs := xs) (fun j σ H' => ∃ pl ls o4 o5, σ = [some (.ref a), some (.ref pr), some (.int p), some (.ref pl), o4, o5] ∧ Ex HB H' ∧ H' pl = some (.lst ls) ∧ RpL K H' ls ((stepD ((allD (ps.take i)).take j) p).map dT))
      ⟨pl0, [], _, _, rfl, Ex.refl _, hB, .nil⟩ (fun _ _ _ _ ⟨_, _, _, _, _, e, _⟩ => e.l (SqL.of (eB _ _ hR))) ?_ ?_)
    · rintro j x σ HC hj ⟨pl, ls, o4, o5, rfl, eC, hL, rL⟩
      obtain ⟨r, b, hr, rfl, hb⟩ := row_of ((rR.mono eB).mono eC) hj
      have hrl := (allD_ok _ r (List.mem_of_getElem? hr)).1
      walk_at "x"
      have ep : ((p : Int) + 1).toNat = p + 1 := by omega
      rw [ep]
      refine lcR (K := K) (fun c => some (dT (r ++ [c]))) (by omega) (fun c HD hc eD => turn_all fun R kR => ⟨rfl, ?_⟩) fun p4 zs HD eD nD hD rD => ?_
      · rw [Int.zero_add]
        walk_at "x"
        refine x_newT rfl fun p5 HE nE eE hE _ => ?_
        refine x_catA (eE.t (eD.t hb)) (SqT.of hE) (by rw [iv_len, hrl, List.length_take]; simp; omega) fun p6 HF eF hF => ?_
        have e6 : iv r ++ [V.int (c : Int)] = iv (r ++ [c]) := by
          unfold iv
          rw [List.map_append] <;> rfl
        rw [e6] at hF
        exact kR _ _ (eE.trans eF) (Rp.ti_of (by rw [zI_iv]; exact hF))
      · rw [fm_some] at rD
        have hz1 := rD.len
        have hz2 := rL.len
        rw [List.length_map, List.length_range] at hz1
        rw [List.length_map] at hz2
        have h9 : (stepD ((allD (ps.take i)).take j) p).length ≤ (stepD (allD (ps.take i)) p).length := len_take_flat _ _ _
        refine x_rCat (eD _ _ hL) hD (by omega) fun p7 HE nE eE hE => ?_
        walk_at "x"
        refine ⟨p7, _, _, _, rfl, (eC.trans eD).trans eE, hE, ?_⟩
        have h8 := ((rL.mono eD).mono eE).app (rD.mono eE)
        rw [stepD_snoc hr, List.map_append, List.map_map]
        exact h8
    · rintro σ HC ⟨pl, ls, o4, o5, rfl, eC, hL, rL⟩
      rw [hxl, List.take_length, ← hst] at rL
      walk_at "x"
      exact ⟨pl, ls, _, _, _, _, rfl, (eA.trans eB).trans eC, hL, rL⟩
  · rintro σ HA ⟨pr, xs, o2, o3, o4, o5, rfl, eA, hR, rR⟩
    rw [iv_len, List.take_length] at rR
    walk_at "x"
    exact q pr HA xs eA hR rR
def sp_law_total (K : PySem.W.Frag) : Sp := fun vs H Q _ => ∃ (a b : Addr) (ps r : List Nat), vs = [.ref a, .ref b] ∧ SqT K H a (iv ps) ∧ SqT K H b (iv r) ∧ (∀ p ∈ ps, p ≤ 10) ∧ r.length ≤ 1000 ∧ (∀ j p c : Nat, ps[j]? = some p → r[j]? = some c → c ≤ p) ∧ ∀ H', Ex H H' → Q (.int (totD ps r : Nat)) H'
theorem len_law_total {K : PySem.W.Frag} : ∀ vs H Q E, sp_law_total K vs H Q E → vs.length = 2 := by
  rintro _ H Q E ⟨_, _, _, _, rfl, _⟩
  rfl
/-- _law_total: powers row power points -/
def t_law_total (K : PySem.W.Frag) : TS := (tRet (tCB (rSum K) (tCons (tLc (RZ.iZipA K (tCons (tVar 0) (tCons (tVar 1) tNil))) (gTup K 2 (gCons (gName 2) (gCons (gName 3) gNil))) tYes (tCall (sp_law_size K) [] E0 (tCons (tVar 2) (tCons (tVar 3) tNil))) [2, 3]) tNil)))

theorem run_law_total {K : PySem.W.Frag} {vs : List V} {H : Hp} {Q : VK} {E : XK} (h : sp_law_total K vs H Q E) : t_law_total K { nx := fun _ H' => Q .non H', rt := Q } (start ["powers", "row", "power", "points"] vs) H := by
  obtain ⟨a, b, ps, r, rfl, hT, hb, hp, hl, hc, q⟩ := h
  unfold t_law_total
  walk_at "x"
  refine x_ZAT hT hb ?_
  refine lc_tot hT hb hl hp hc (fun _ _ => rfl) (fun x y H' R hyx hx10 k => ?_) fun p5 HG eG nG hG => ?_
  · walk_at "x"
    exact ⟨x, y, rfl, hyx, hx10, k⟩
  walk_at "x"
  refine x_sum (SqL.of hG) ?_
  rw [zI_sum, totD_range]
  exact q _ eG
/-- the dict of rows by their totals -/
structure WD (K : PySem.W.Frag) (H : Hp) (es : List (Int × Addr)) (g : Int → List (List Nat)) : Prop where
  nd : (es.map (·.1)).Nodup
  val : ∀ e ∈ es, ∃ xs, H e.2 = some (.lst xs) ∧ RpL K H xs ((g e.1).map dT)
  mem : ∀ t, t ∈ es.map (·.1) ↔ g t ≠ []
theorem WD.get {K : PySem.W.Frag} {H : Hp} {es : List (Int × Addr)} {g : Int → List (List Nat)} (w : WD K H es g) (t : Int) {p : Addr} (hp : H p = some (.lst [])) :
    ∃ q xs, (valV (kvG V.ref es) (.inl t)).getD (.ref p) = .ref q ∧ H q = some (.lst xs) ∧ RpL K H xs ((g t).map dT) := by
  by_cases h : t ∈ es.map (·.1)
  · obtain ⟨e, he, rfl⟩ := List.mem_map.mp h
    obtain ⟨xs, h1, h2⟩ := w.val e he
    rw [kvG_some V.ref w.nd he]
    exact ⟨e.2, xs, rfl, h1, h2⟩
  · have hg : g t = [] := Classical.byContradiction fun z => h ((w.mem t).mpr z)
    rw [kvG_none V.ref h, hg]
    exact ⟨p, [], rfl, hp, .nil⟩
theorem WD.mono {K : PySem.W.Frag} {H H' : Hp} {es : List (Int × Addr)} {g : Int → List (List Nat)} (w : WD K H es g) (e : Ex H H') : WD K H' es g := ⟨w.nd, fun f hf => by
  obtain ⟨xs, h1, h2⟩ := w.val f hf
  exact ⟨xs, e _ _ h1, h2.mono e⟩, w.mem⟩
theorem WD.put {K : PySem.W.Frag} {H : Hp} {es : List (Int × Addr)} {g : Int → List (List Nat)} (w : WD K H es g) {d q : Addr} {kv : List (Key × V)} {o : HO} (hd : H d = some (.dK kv)) (t : Int) {r : List Nat} {ys : List V} (hq : H q = some (.lst ys)) (hr : RpL K H ys ((g t ++ [r]).map dT)) :
    WD K (upd H d o) (putG es t q) (fun s => if s = t then g t ++ [r] else g s) := by
  have hIm : Im H (upd H d o) := Im.upd hd rfl
  have hne : ∀ {x : Addr} {ys : List V}, H x = some (.lst ys) → x ≠ d := fun h e => by
    rw [e, hd] at h
    cases h
  refine ⟨putG_nd w.nd t q, fun e he => ?_, fun s => ?_⟩
  · rcases putG_mem he with h | h
    · obtain ⟨xs, h1, h2⟩ := w.val e h.1
      rw [if_neg h.2]
      exact ⟨xs, by rw [upd_ne (hne h1)]; exact h1, h2.im hIm⟩
    · rw [h, if_pos rfl]
      exact ⟨ys, by rw [upd_ne (hne hq)]; exact hq, hr.im hIm⟩
  · rw [putG_keys]
    by_cases hs : s = t
    · rw [if_pos hs]
      refine ⟨fun _ => by simp, fun _ => ?_⟩
      by_cases hk : t ∈ es.map (·.1)
      · rw [if_pos hk, hs]
        exact hk
      · rw [if_neg hk, hs]
        exact List.mem_append_right _ (List.mem_singleton.mpr rfl)
    · rw [if_neg hs, ← w.mem s]
      by_cases hk : t ∈ es.map (·.1)
      · rw [if_pos hk]
      · rw [if_neg hk, List.mem_append, List.mem_singleton]
        exact ⟨fun h => h.resolve_right hs, .inl⟩
theorem WD.congr {K : PySem.W.Frag} {H : Hp} {es : List (Int × Addr)} {g g' : Int → List (List Nat)} (w : WD K H es g) (h : ∀ t, g t = g' t) : WD K H es g' := by
  obtain rfl : g = g' := funext h
  exact w
theorem putG_len {β : Type} (es : List (Int × β)) (t : Int) (b : β) : (putG es t b).length ≤ es.length + 1 := by
  unfold putG
  split
  · rw [List.length_map]
    omega
  · rw [List.length_append, List.length_singleton]
    omega
/-- the rows of a total among the first j -/
def duJ (ps : List Nat) (j : Nat) (t : Int) : List (List Nat) := ((allD ps).take j).filter fun r => decide (((totD ps r : Nat) : Int) = t)
theorem duJ_succ {ps : List Nat} {j : Nat} {r : List Nat} (h : (allD ps)[j]? = some r) (t : Int) : (if t = ((totD ps r : Nat) : Int) then duJ ps j ((totD ps r : Nat) : Int) ++ [r] else duJ ps j t) = duJ ps (j + 1) t := by
  unfold duJ
  rw [take_snoc h, List.filter_append]
  by_cases e : t = ((totD ps r : Nat) : Int)
  · rw [if_pos e, ← e, List.filter_cons, if_pos (decide_eq_true e.symm)] <;> rfl
  · rw [if_neg e, List.filter_cons, if_neg (by rw [decide_eq_true_eq]; exact fun z => e z.symm), List.filter_nil, List.append_nil]
theorem mem_due {ps : List Nat} {t : Int} : due ps t ≠ [] ↔ 0 < Wy ps t := by
  unfold Wy
  exact List.length_pos_iff.symm
theorem Wy_in {ps : List Nat} {t : Int} : 0 < Wy ps t ↔ t ∈ (allD ps).map fun r => ((totD ps r : Nat) : Int) := by
  rw [← mem_due, List.mem_map]
  unfold due
  constructor
  · intro h
    obtain ⟨r, hr⟩ := List.exists_mem_of_ne_nil _ h
    rw [List.mem_filter, decide_eq_true_eq] at hr
    exact ⟨r, hr.1, hr.2⟩
  · rintro ⟨r, h1, h2⟩
    exact List.ne_nil_of_mem (List.mem_filter.mpr ⟨h1, decide_eq_true h2⟩)
theorem Wy_big : Wy (List.replicate 6 10) 12282 = 1 := by
  have h0 : ∀ c, c ≤ 10 → lenN 10 c = 2048 - 2 ^ (10 - c) := fun c hc => by
    unfold lenN
    rfl
  have key : ∀ n : Nat, Wy (List.replicate n 10) ((2047 * n : Nat) : Int) = 1 := by
    intro n
    induction n with
    | zero =>
      rw [List.replicate_zero, Wy_nil] <;> rfl
    | succ n ih =>
      rw [List.replicate_succ', Wy_snoc]
      have e10 : List.range (10 + 1) = List.range 10 ++ [10] := List.range_succ
      have hz : ((List.range 10).map fun c => Wy (List.replicate n 10) (((2047 * (n + 1) : Nat) : Int) - ((lenN 10 c : Nat) : Int))).sum = 0 := by
        have e9 : ((List.range 10).map fun c => Wy (List.replicate n 10) (((2047 * (n + 1) : Nat) : Int) - ((lenN 10 c : Nat) : Int))) = (List.range 10).map fun _ => 0 := by
          refine List.map_congr_left fun c hc => ?_
          have hc := List.mem_range.mp hc
          have hl : lenN 10 c ≤ 2046 := by
            rw [h0 c (by omega)]
            have : 2 ^ 1 ≤ 2 ^ (10 - c) := Nat.pow_le_pow_right (by decide) (by omega)
            omega
          have hd : due (List.replicate n 10) (((2047 * (n + 1) : Nat) : Int) - ((lenN 10 c : Nat) : Int)) = [] := by
            unfold due
            rw [List.filter_eq_nil_iff]
            intro r hr
            rw [decide_eq_true_eq]
            have := tot_bd (List.replicate n 10) r fun p hp => by rw [List.eq_of_mem_replicate hp]; omega
            rw [List.length_replicate] at this
            omega
          show (due _ _).length = 0
          rw [hd] <;> rfl
        rw [e9, sum_zero]
      rw [e10, List.map_append, List.sum_append, hz]
      have h1 : lenN 10 10 = 2047 := by decide
      show 0 + (Wy (List.replicate n 10) (((2047 * (n + 1) : Nat) : Int) - ((lenN 10 10 : Nat) : Int)) + 0) = 1
      rw [h1]
      have e2 : (((2047 * (n + 1) : Nat) : Int) - ((2047 : Nat) : Int)) = ((2047 * n : Nat) : Int) := by omega
      rw [e2, ih]
  exact key 6
theorem rows_eq {K : PySem.W.Frag} {H : Hp} {Q : VK} {a b : Addr} {xs ys : List V} {rr : List (List Nat)} (h1 : H a = some (.lst xs)) (r1 : RpL K H xs (rr.map dT)) (h2 : H b = some (.lst ys)) (r2 : RpL K H ys (rr.map dT)) : ∃ d, Dp K H (.ref a) d ∧ Dp K H (.ref b) d ∧ SeqAt.shaped d = true := by
  have e : rr.map dT = (rr.map zI).map fun r => D.tup (dI r) := by
    rw [List.map_map]
    rfl
  rw [e] at r1 r2
  exact ⟨_, .lst (SqL.of h1) (DpAll.tups r1), .lst (SqL.of h2) (DpAll.tups r2), shapedLT _⟩
def sp_law (K : PySem.W.Frag) : Sp := fun vs H Q _ => ∃ (a : Addr) (ns : List Int), vs = [.ref a] ∧ SqL K H a (ns.map V.int) ∧ ns.length ≤ 63 ∧ ∀ H', Q (.bl true) H'
theorem len_law {K : PySem.W.Frag} : ∀ vs H Q E, sp_law K vs H Q E → vs.length = 1 := by
  rintro _ H Q E ⟨a, ns, rfl, _⟩
  rfl
/-- law: script index digits powers ways row total found due digit -/
def t_law (K : PySem.W.Frag) : TS := (tSeq (tFor (iRng1 (tCons (tC (.int 8)) tNil)) (gName 1) (tSeq (tAsg (tCall (sp_law_digits K) [] E0 (tCons (tVar 0) (tCons (tVar 1) (tCons (tC (.int 20)) (tCons (tC (.int 27720)) tNil))))) (gName 2)) (tSeq (tAsg (tCB (rTupO K) (tCons (tLc (iList K (tSl (rSlL K) (tVar 2) (tPart (tC (.int 2))) (tPart (tOp rPlus (tC (.int 2)) (tOp rMod (tOp (rIxL K) (tVar 2) (tC (.int 0))) (tC (.int 5))))))) (gName 9) tYes (tOp rMod (tVar 9) (tOp (rIxL K) (tLst (tCons (tC (.int 4)) (tCons (tC (.int 7)) tNil))) (tOp rMod (tOp (rIxL K) (tVar 2) (tC (.int 1))) (tC (.int 2))))) [9]) tNil)) (gName 3)) (tSeq (tAsg tDNewK (gName 4)) (tSeq (tFor (iList K (tCall (sp_law_all K) [] E0 (tCons (tVar 3) tNil))) (gName 5) (tSeq (tAsg (tCall (sp_law_total K) [] E0 (tCons (tVar 3) (tCons (tVar 5) tNil))) (gName 6)) (sDPut (tVar 4) (tVar 6) (tOp rCat (tDGet2 (tVar 4) (tVar 6) (tLst tNil)) (tLst (tCons (tVar 5) tNil)))))) (tSeq (tAsg (tCall (sp_possible_totals K) [] E0 (tCons (tVar 3) tNil)) (gName 7)) (tSeq (tIfS (tOr (tTest (tOp (rNeD K) (tVar 7) (tCB rSortDA (tCons (tVar 4) tNil)))) (tNot (tB (tCB (rIsi K) (tCons (tVar 7) (tCons (tC (.ty "list")) tNil)))))) (tRet (tC (.bl false))) tNext) (tSeq (tFor (iList K (tOp rCat (tOp rCat (tSl (rSlL K) (tCB rSortDA (tCons (tVar 4) tNil)) tNoPart (tPart (tC (.int 6)))) (tSl (rSlL K) (tCB rSortDA (tCons (tVar 4) tNil)) (tPart (tUn rNeg (tC (.int 6)))) tNoPart)) (tLst (tCons (tC (.int 0)) (tCons (tC (.int 1)) (tCons (tOp rMod (tOp (rIxL K) (tVar 2) (tC (.int 9))) (tC (.int 500))) (tCons (tOp rMod (tOp (rIxL K) (tVar 2) (tC (.int 10))) (tC (.int 20000))) tNil))))))) (gName 6) (tSeq (tAsg (tDGet2 (tVar 4) (tVar 6) (tLst tNil)) (gName 8)) (tSeq (tIfS (tOr (tTest (tOp rNe (tCall (sp_count_dots K) [] E0 (tCons (tVar 3) (tCons (tVar 6) tNil))) (tCB (rLenQ K) (tCons (tVar 8) tNil)))) (tTest (tOp (rNeD K) (tListG (tCallG (sp_all_dots K) [] E0 (tCons (tVar 3) (tCons (tVar 6) tNil)))) (tVar 8)))) (tRet (tC (.bl false))) tNext) (tIfS (tTest (tOp rNe (tCall (sp_count_dots K) [] E0 (tCons (tRevT K (tVar 3)) (tCons (tVar 6) tNil))) (tCB (rLenQ K) (tCons (tVar 8) tNil)))) (tRet (tC (.bl false))) tNext)))) (tSeq (tDrop (tBM K "list" rAppend (tVar 7) (tCons (tC .non) tNil))) (tIfS (tOr (tTest (tOp (rNeD K) (tCall (sp_possible_totals K) [] E0 (tCons (tVar 3) tNil)) (tSl (rSlL K) (tVar 7) tNoPart (tPart (tUn rNeg (tC (.int 1))))))) (tTest (tOp (rNeD K) (tCall (sp_possible_totals K) [] E0 (tCons (tRevT K (tVar 3)) tNil)) (tSl (rSlL K) (tVar 7) tNoPart (tPart (tUn rNeg (tC (.int 1)))))))) (tRet (tC (.bl false))) tNext)))))))))) (tSeq (tIfS (tOr (tTest (tOp (rNeD K) (tCall (sp_possible_totals K) [] E0 (tCons (tTup (tCons (tC (.int 1)) (tCons (tC (.int 1)) tNil))) tNil)) (tLst (tCons (tC (.int 4)) (tCons (tC (.int 5)) (tCons (tC (.int 6)) tNil)))))) (tTest (tOp (rNeD K) (tListG (tCallG (sp_all_dots K) [] E0 (tCons (tTup (tCons (tC (.int 1)) (tCons (tC (.int 1)) tNil))) (tCons (tC (.int 5)) tNil)))) (tLst (tCons (tTup (tCons (tC (.int 0)) (tCons (tC (.int 1)) tNil))) (tCons (tTup (tCons (tC (.int 1)) (tCons (tC (.int 0)) tNil))) tNil)))))) (tRet (tC (.bl false))) tNext) (tRet (tAndV (tOp (rEqD K) (tCall (sp_possible_totals K) [] E0 (tCons (tTup tNil) tNil)) (tLst (tCons (tC (.int 0)) tNil))) (tAndV (tOp (rEqD K) (tListG (tCallG (sp_all_dots K) [] E0 (tCons (tTup tNil) (tCons (tC (.int 0)) tNil)))) (tLst (tCons (tTup tNil) tNil))) (tOp rEq (tCall (sp_count_dots K) [] E0 (tCons (tOp (rRepT K) (tTup (tCons (tC (.int 10)) tNil)) (tC (.int 6))) (tCons (tC (.int 12282)) tNil))) (tC (.int 1))))))))

theorem run_law {K : PySem.W.Frag} {vs : List V} {H : Hp} {Q : VK} {E : XK} (h : sp_law K vs H Q E) : t_law K { nx := fun _ H' => Q .non H', rt := Q } (start ["script", "index", "digits", "powers", "ways", "row", "total", "found", "due", "digit"] vs) H := by
  obtain ⟨a, ns, rfl, hS, hn, q⟩ := h
  unfold t_law
  walk_at "x"
  refine for_r (fun i σ H' => ∃ o1 o2 o3 o4 o5 o6 o7 o8 o9, σ = [some (.ref a), o1, o2, o3, o4, o5, o6, o7, o8, o9] ∧ Ex H H') ⟨_, _, _, _, _, _, _, _, _, rfl, Ex.refl _⟩ ?_ ?_
  · rintro i σ HA hi ⟨o1, o2, o3, o4, o5, o6, o7, o8, o9, rfl, eA⟩
    rw [Int.zero_add]
    walk_at "x"
    have hi6 : i < 8 := hi
    refine ⟨a, ns, i, 20, 27720, rfl, eA.l hS, by omega, by omega, hn, by omega, by omega, by omega, by omega, fun pd H2 ds e2 n2 h2 hdl hdb => ?_⟩
    obtain ⟨d0, a0, b0⟩ := dig hdb (i := 0) (by omega)
    obtain ⟨d1, a1, b1⟩ := dig hdb (i := 1) (by omega)
    walk_at "x"
    refine x_ixL (SqL.of h2) a0 ?_
    walk_at "x"
    obtain ⟨L, hL, hLb⟩ : ∃ L : Nat, (2 : Int) + (d0 : Int) % 5 = ((2 + L : Nat) : Int) ∧ L ≤ 4 := ⟨d0 % 5, by omega, by omega⟩
    rw [hL]
    refine x_slL (SqL.of h2) fun ps0 H3 n3 e3 h3 => ?_
    have hcut : cutV (ds.map V.int) (some 2) (some ((2 + L : Nat) : Int)) = ((ds.drop 2).take L).map V.int := by
      have := cut_mid (ds.map V.int) 2 (2 + L)
      rw [show (2 + L) - 2 = L by omega, ← List.map_drop, ← List.map_take] at this
      exact this
    rw [hcut] at h3
    obtain ⟨M, hM, hMa⟩ : ∃ M : Nat, (0 < M ∧ M ≤ 7) ∧ [V.int 4, V.int 7][((d1 : Int) % 2).toNat]? = some (.int (M : Int)) := by
      have h5 : ((d1 : Int) % 2).toNat = 0 ∨ ((d1 : Int) % 2).toNat = 1 := by omega
      rcases h5 with h5 | h5
      · rw [h5]
        exact ⟨4, by omega, rfl⟩
      · rw [h5]
        exact ⟨7, by omega, rfl⟩
    walk_at "x"
    refine x_RefL (SqL.of h3) (lcLI (K := K) (fun n => some (.int (n % (M : Int)))) (SqL.of h3) (by rw [List.length_take]; omega) (fun j n H4 hj e4 => turn_all fun R kR => ⟨rfl, ?_⟩) fun p4 zs H4 e4 n4 h4 r4 => ?_)
    · walk_at "x"
      refine x_newL rfl fun p5 H5 n5 e5 h5 _ => ?_
      walk_at "x"
      refine x_ixL (SqL.of (e5 _ _ (e4 _ _ (e3 _ _ h2)))) a1 ?_
      walk_at "x"
      refine x_ixL (SqL.of h5) (atI_n (by omega) hMa) ?_
      walk_at "x"
      exact kR _ _ e5 (.int _)
    obtain ⟨ps, hps⟩ : ∃ ps, ps = ((ds.drop 2).take L).map fun n => (n % (M : Int)).toNat := ⟨_, rfl⟩
    have hp6 : ∀ p ∈ ps, p ≤ 6 := fun p hp => by
      rw [hps] at hp
      obtain ⟨n, _, rfl⟩ := List.mem_map.mp hp
      have := Int.emod_lt_of_pos n (show 0 < (M : Int) by omega)
      have := Int.emod_nonneg n (show (M : Int) ≠ 0 by omega)
      omega
    have hp10 : ∀ p ∈ ps, p ≤ 10 := fun p hp => by have := hp6 p hp; omega
    have hpl : ps.length ≤ 4 := by
      rw [hps, List.length_map, List.length_take]
      omega
    have hzs : zs = iv ps := by
      have e9 : ((ds.drop 2).take L).filterMap (fun n => some (D.int (n % (M : Int)))) = dI (zI ps) := by
        rw [fm_some, hps]
        unfold dI zI
        rw [List.map_map, List.map_map]
        refine List.map_congr_left fun n _ => ?_
        have := Int.emod_nonneg n (show (M : Int) ≠ 0 by omega)
        show D.int (n % (M : Int)) = D.int (((n % (M : Int)).toNat : Nat) : Int)
        rw [Int.toNat_of_nonneg this]
      rw [e9] at r4
      rw [r4.ints_inv, zI_iv]
    subst hzs
    walk_at "x"
    refine x_tupL (SqL.of h4) fun pt H5 n5 e5 h5 => ?_
    have hT : SqT K H5 pt (iv ps) := SqT.of h5
    walk_at "x"
    refine x_dnewK fun pw H6 n6 e6 h6 => ?_
    walk_at "x"
    refine ⟨pt, ps, rfl, e6.t hT, hp6, hpl, fun pr H7 ys e7 h7 r7 => ?_⟩
    have hb1 := allD_len ps hp6
    have hb2 : 7 ^ ps.length ≤ 7 ^ 4 := Nat.pow_le_pow_right (by decide) hpl
    have hb3 : (7 : Nat) ^ 4 = 2401 := by decide
    have hyl : ys.length = (allD ps).length := by rw [r7.len, List.length_map]
    have eA5 : Ex H H5 := (((eA.trans e2).trans e3).trans e4).trans e5
    have e05 : Ex HA H5 := ((e2.trans e3).trans e4).trans e5
    have npw : H pw = none := eA5.back n6
    have h27 : H7 pd = some (.lst (ds.map V.int)) := ((((e3.trans e4).trans e5).trans e6).trans e7) _ _ h2
    have hpdw : pd ≠ pw := ne_of_none (((e3.trans e4).trans e5) _ _ h2) n6
    have hprw : pr ≠ pw := fun e => by
      rw [e, e7 _ _ h6] at h7
      cases h7
    refine x_RefL (SqL.of h7) (for_l (xs := ys) (fun j σ H' => ∃ o5 o6 es, σ = [some (.ref a), some (.int i), some (.ref pd), some (.ref pt), some (.ref pw), o5, o6, o7, o8, o9] ∧ Ex H H' ∧ H' pd = some (.lst (ds.map V.int)) ∧ H' pr = some (.lst ys) ∧ RpL K H' ys ((allD ps).map dT) ∧ SqT K H' pt (iv ps) ∧ H' pw = some (.dK (kvG V.ref es)) ∧ WD K H' es (duJ ps j) ∧ es.length ≤ j)
      ⟨_, _, [], rfl, (eA5.trans e6).trans e7, h27, h7, r7, (e6.trans e7).t hT, e7 _ _ h6, ⟨by simp, by simp, fun t => by unfold duJ; rw [List.take_zero]; simp⟩, Nat.le_refl _⟩ (fun _ _ _ _ ⟨_, _, _, _, _, _, h, _⟩ => SqL.of h) ?_ ?_)
    · rintro j x σ HB hj ⟨o5, o6, es, rfl, eB, hDB, hRB, rRB, hTB, hWB, wB, hes⟩
      obtain ⟨r, b, hr, rfl, hb⟩ := row_of rRB hj
      have hjl : j < ys.length := (List.getElem?_eq_some_iff.mp hj).1
      obtain ⟨hrl, hrc⟩ := allD_ok ps r (List.mem_of_getElem? hr)
      walk_at "x"
      refine ⟨pt, b, ps, r, rfl, hTB, hb, hp10, by omega, hrc, fun HC eC => ?_⟩
      walk_at "x"
      refine x_DG (eC _ _ hWB) ?_
      walk_at "x"
      refine x_newL rfl fun p8 HD nD eD hD _ => ?_
      refine x_DGo (eD _ _ (eC _ _ hWB)) ?_
      obtain ⟨q8, xs8, eq8, hq8, rq8⟩ := (wB.mono (eC.trans eD)).get ((totD ps r : Nat) : Int) hD
      rw [eq8]
      walk_at "x"
      refine x_newL rfl fun p9 HE nE eE hE _ => ?_
      have hx8 := rq8.len
      rw [List.length_map] at hx8
      have hx9 : (duJ ps j ((totD ps r : Nat) : Int)).length ≤ 2401 := by
        unfold duJ
        have h1 := List.length_filter_le (fun r' => decide (((totD ps r' : Nat) : Int) = ((totD ps r : Nat) : Int))) ((allD ps).take j)
        rw [List.length_take] at h1
        omega
      refine x_rCat (eE _ _ hq8) hE (by simp; omega) fun pc HF nF eF hF => ?_
      have eCF := ((eC.trans eD).trans eE).trans eF
      have hbF := eCF.t hb
      have hrF : RpL K HF (xs8 ++ [.ref b]) ((duJ ps j ((totD ps r : Nat) : Int) ++ [r]).map dT) := ((rq8.mono eE).mono eF).snoc1 (x := r) (Rp.ti_of (by rw [zI_iv]; exact hbF))
      have hWF := eCF _ _ hWB
      walk_at "x"
      refine x_DPt hWF (by unfold kvG; rw [List.length_map]; omega) ?_
      rw [kvG_put V.ref wB.nd]
      have hIm := Im.upd (o := .dK (kvG V.ref (putG es ((totD ps r : Nat) : Int) pc))) hWF rfl
      refine ⟨_, _, putG es ((totD ps r : Nat) : Int) pc, rfl, (eB.trans eCF).mut npw, ?_, ?_, (rRB.mono eCF).im hIm, hIm.t (eCF.t hTB), upd_same, ((wB.mono eCF).put hWF _ hF hrF).congr (duJ_succ hr), ?_⟩
      · rw [upd_ne hpdw]
        exact eCF _ _ hDB
      · rw [upd_ne hprw]
        exact eCF _ _ hRB
      · have := putG_len es ((totD ps r : Nat) : Int) pc
        omega
    · rintro σ HB ⟨o5, o6, es, rfl, eB, hDB, hRB, rRB, hTB, hWB, wB0, hes⟩
      have wB : WD K HB es (due ps) := wB0.congr fun t => by
        unfold duJ due
        rw [hyl, List.take_length]
      walk_at "x"
      refine ⟨pt, ps, rfl, hTB, hp10, by omega, fun pf HC ks eC nC hC hasc hmem => ?_⟩
      have hsame : ∀ ys' : List Int, ys'.Perm (es.map (·.1)) → ys'.Pairwise (· ≤ ·) → ys' = ks := fun ys' h1 h2 => asc_ext (asc_of h1 h2 wB.nd) hasc fun x => by rw [h1.mem_iff, wB.mem, mem_due, hmem]
      walk_at "x"
      refine x_sortDA (eC _ _ hWB) (kvG_keys V.ref es) fun ys1 p1 HD hperm hsort nD eD hD => ?_
      obtain rfl := hsame ys1 hperm hsort
      refine x_neD (Dp.li (SqL.of (eD _ _ hC))) (Dp.li (SqL.of hD)) (shapedLI _) ?_
      walk_at "x"
      refine x_isiTy (tyL (eD _ _ hC)) (r := true) (by decide +kernel) ?_
      walk_at "x"
      refine x_sortDA (eD _ _ (eC _ _ hWB)) (kvG_keys V.ref es) fun ys2 p2 HE hperm2 hsort2 nE eE hE => ?_
      obtain rfl := hsame ys2 hperm2 hsort2
      walk_at "x"
      refine x_slL (SqL.of hE) fun p3 HF nF eF hF => ?_
      have hc6 : cutV (ys2.map V.int) none (some 6) = (ys2.take 6).map V.int := by
        rw [List.map_take]
        exact cut_to _ 6
      rw [hc6] at hF
      walk_at "x"
      refine x_sortDA (eF _ _ (eE _ _ (eD _ _ (eC _ _ hWB)))) (kvG_keys V.ref es) fun ys3 p4 HG hperm3 hsort3 nG eG hG => ?_
      obtain rfl := hsame ys3 hperm3 hsort3
      walk_at "x"
      refine x_slL (SqL.of hG) fun p5 HH nH eH hH => ?_
      have hcb : cutV (ys3.map V.int) (some (-6)) none = (ys3.drop (ys3.length - 6)).map V.int := by
        rw [List.map_drop, ← List.length_map (f := V.int) (as := ys3)]
        exact cut_back _ 6 (by decide)
      rw [hcb] at hH
      walk_at "x"
      refine x_rCat (eH _ _ (eG _ _ hF)) hH (by rw [List.length_map, List.length_map, List.length_take, List.length_drop]; omega) fun p6 HI nI eI hI => ?_
      have eCI := (((((eC.trans eD).trans eE).trans eF).trans eG).trans eH).trans eI
      obtain ⟨d9, a9, b9⟩ := dig hdb (i := 9) (by omega)
      obtain ⟨d10, a10, b10⟩ := dig hdb (i := 10) (by omega)
      walk_at "x"
      refine x_ixL (SqL.of (eCI _ _ hDB)) a9 ?_
      walk_at "x"
      refine x_ixL (SqL.of (eCI _ _ hDB)) a10 ?_
      walk_at "x"
      refine x_newL rfl fun p7 HJ nJ eJ hJ _ => ?_
      refine x_rCat (eJ _ _ hI) hJ (by rw [List.length_append, List.length_map, List.length_map, List.length_take, List.length_drop]; simp; omega) fun p8 HK nK eK hK => ?_
      have eCK := (eCI.trans eJ).trans eK
      have eDK := (((((eD.trans eE).trans eF).trans eG).trans eH).trans eI).trans (eJ.trans eK)
      obtain ⟨zz, hzz⟩ : ∃ zz : List Int, (ys3.take 6).map V.int ++ (ys3.drop (ys3.length - 6)).map V.int ++ [V.int 0, V.int 1, V.int ((d9 : Int) % 500), V.int ((d10 : Int) % 20000)] = zz.map V.int := ⟨ys3.take 6 ++ ys3.drop (ys3.length - 6) ++ [0, 1, (d9 : Int) % 500, (d10 : Int) % 20000], by rw [List.map_append, List.map_append] <;> rfl⟩
      rw [hzz] at hK
      refine x_RefL (SqL.of hK) (for_l (xs := zz.map V.int) (fun j σ H' => ∃ o6 o8, σ = [some (.ref a), some (.int i), some (.ref pd), some (.ref pt), some (.ref pw), o5, o6, some (.ref pf), o8, o9] ∧ Ex HK H') ⟨_, _, rfl, Ex.refl _⟩ (fun _ _ _ _ ⟨_, _, _, e⟩ => e.l (SqL.of hK)) ?_ ?_)
      · rintro j x σ HL hj ⟨o6, o8, rfl, eL⟩
        obtain ⟨t, rfl⟩ : ∃ t, x = .int t := by
          rw [List.getElem?_map] at hj
          cases e : zz[j]? with
          | none =>
            rw [e] at hj
            cases hj
          | some t =>
            rw [e] at hj
            exact ⟨t, (Option.some.inj hj).symm⟩
        have eCL := eCK.trans eL
        walk_at "x"
        refine x_DG (eCL _ _ hWB) ?_
        walk_at "x"
        refine x_newL rfl fun p9 HM nM eM hM _ => ?_
        refine x_DGo (eM _ _ (eCL _ _ hWB)) ?_
        obtain ⟨qd, xd, eqd, hqd, rqd⟩ := (wB.mono (eCL.trans eM)).get t hM
        rw [eqd]
        have hxl : xd.length = Wy ps t := by
          rw [rqd.len, List.length_map] <;> rfl
        walk_at "x"
        have eCM := eCL.trans eM
        refine ⟨pt, ps, t, rfl, eCM.t hTB, hp10, by omega, fun HN eN => ?_⟩
        walk_at "x"
        refine x_lenL (SqL.of (eN _ _ hqd)) ?_
        rw [hxl]
        walk_at "x"
        refine b_f (by simp) ?_
        walk_at "x"
        refine ⟨pt, ps, t, rfl, (eCM.trans eN).t hTB, hp6, hpl, fun zs HO eO rO po no => ?_⟩
        have eP : Ex HO (upd HO po (.lst zs)) := Ex.new no
        have eNP := eN.trans (eO.trans eP)
        obtain ⟨dd, g1, g2, g3⟩ := rows_eq (K := K) (Q := Q) (H := upd HO po (.lst zs)) (a := po) (b := qd) upd_same (rO.mono eP) (eNP _ _ hqd) (rqd.mono eNP)
        walk_at "x"
        refine x_neD g1 g2 g3 ?_
        walk_at "x"
        refine x_RevT ((eCM.trans eNP).t hTB) fun p10 HQ nQ eQ hQ => ?_
        have hrv : (iv ps).reverse = iv ps.reverse := by unfold iv; rw [List.map_reverse]
        rw [hrv] at hQ
        walk_at "x"
        refine ⟨p10, ps.reverse, t, rfl, SqT.of hQ, fun p h => hp10 p (List.mem_reverse.mp h), by rw [List.length_reverse]; omega, fun HR eR => ?_⟩
        rw [Wy_rev]
        walk_at "x"
        refine x_lenL (SqL.of (eR _ _ (eQ _ _ (eNP _ _ hqd)))) ?_
        rw [hxl]
        walk_at "x"
        refine b_f (by simp) ?_
        walk_at "x"
        exact ⟨_, _, rfl, (((eL.trans eM).trans eNP).trans eQ).trans eR⟩
      · rintro σ HL ⟨o6, o8, rfl, eL⟩
        have hfL := eL _ _ (eDK _ _ hC)
        have npf : H pf = none := eB.back nC
        have hTL := (eCK.trans eL).t hTB
        walk_at "x"
        refine x_app rfl hfL ?_
        walk_at "x"
        have hkl : ys3.length ≤ 2401 := by
          rw [hperm3.length_eq, List.length_map]
          omega
        refine x_App hfL (by rw [List.length_map]; omega) ?_
        have hIm := Im.set (o := .lst (ys3.map V.int ++ [V.non])) hfL
        have hTM := hIm.t hTL
        have hfM : (upd HL pf (.lst (ys3.map V.int ++ [V.non]))) pf = some (.lst (ys3.map V.int ++ [V.non])) := upd_same
        have eAM : Ex H (upd HL pf (.lst (ys3.map V.int ++ [V.non]))) := ((eB.trans eCK).trans eL).mut npf
        obtain ⟨HM, hHM⟩ : ∃ HM, HM = upd HL pf (.lst (ys3.map V.int ++ [V.non])) := ⟨_, rfl⟩
        rw [← hHM] at hTM hfM eAM ⊢
        have hci : cutV (ys3.map V.int ++ [V.non]) none (some (-1)) = ys3.map V.int := by
          rw [cut_init, List.dropLast_concat]
        walk_at "x"
        refine ⟨pt, ps, rfl, hTM, hp10, by omega, fun p1 HN ks1 eN nN hN hasc1 hmem1 => ?_⟩
        obtain rfl : ks1 = ys3 := asc_ext hasc1 hasc fun x => by rw [hmem1, hmem]
        walk_at "x"
        refine x_slL (SqL.of (eN _ _ hfM)) fun p2 HO nO eO hO => ?_
        rw [hci] at hO
        refine x_neD (Dp.li (SqL.of (eO _ _ hN))) (Dp.li (SqL.of hO)) (shapedLI _) ?_
        walk_at "x"
        refine x_RevT ((eN.trans eO).t hTM) fun p3 HP nP eP hP => ?_
        have hrv : (iv ps).reverse = iv ps.reverse := by unfold iv; rw [List.map_reverse]
        rw [hrv] at hP
        walk_at "x"
        refine ⟨p3, ps.reverse, rfl, SqT.of hP, fun p h => hp10 p (List.mem_reverse.mp h), by rw [List.length_reverse]; omega, fun p4 HQ ks2 eQ nQ hQ hasc2 hmem2 => ?_⟩
        obtain rfl : ks2 = ks1 := asc_ext hasc2 hasc fun x => by rw [hmem2, hmem, Wy_rev]
        walk_at "x"
        refine x_slL (SqL.of ((((eN.trans eO).trans eP).trans eQ) _ _ hfM)) fun p5 HR nR eR hR => ?_
        rw [hci] at hR
        refine x_neD (Dp.li (SqL.of (eR _ _ hQ))) (Dp.li (SqL.of hR)) (shapedLI _) ?_
        walk_at "x"
        exact ⟨_, _, _, _, _, _, _, _, _, rfl, ((((eAM.trans eN).trans eO).trans eP).trans eQ).trans eR⟩
  · rintro σ HA ⟨o1, o2, o3, o4, o5, o6, o7, o8, o9, rfl, eA⟩
    walk_at "x"
    refine x_newT rfl fun p1 H1 n1 e1 h1 _ => ?_
    walk_at "x"
    refine ⟨p1, [1, 1], rfl, SqT.of h1, by decide, by decide, fun p2 H2 ks e2 n2 h2 hasc hmem => ?_⟩
    obtain rfl : ks = [4, 5, 6] := asc_ext hasc (by decide) fun x => by
      rw [hmem, Wy_in, show (allD [1, 1]).map (fun r => ((totD [1, 1] r : Nat) : Int)) = [4, 5, 5, 6] from by decide]
      simp
    walk_at "x"
    refine x_newL rfl fun p3 H3 n3 e3 h3 _ => ?_
    refine x_neD (Dp.li (ns := [4, 5, 6]) (SqL.of (e3 _ _ h2))) (Dp.li (SqL.of h3)) (shapedLI _) ?_
    walk_at "x"
    refine x_newT rfl fun p4 H4 n4 e4 h4 _ => ?_
    walk_at "x"
    refine ⟨p4, [1, 1], 5, rfl, SqT.of h4, by decide, by decide, fun zs H5 e5 r5 p5 n5 => ?_⟩
    have hd5 : due [1, 1] 5 = [[0, 1], [1, 0]] := by decide
    rw [hd5] at r5
    have e6 : Ex H5 (upd H5 p5 (.lst zs)) := Ex.new n5
    walk_at "x"
    refine x_newT rfl fun p6 H7 n7 e7 h7 _ => ?_
    walk_at "x"
    refine x_newT rfl fun p7 H8 n8 e8 h8 _ => ?_
    walk_at "x"
    refine x_newL rfl fun p8 H9 n9 e9 h9 _ => ?_
    have e69 := ((e6.trans e7).trans e8).trans e9
    obtain ⟨dd, g1, g2, g3⟩ := rows_eq (K := K) (Q := Q) (H := H9) (a := p5) (b := p8) (xs := zs) (rr := [[0, 1], [1, 0]]) (((e7.trans e8).trans e9) _ _ upd_same) (r5.mono e69) h9 (.cons (.ti_of (SqT.of ((e8.trans e9) _ _ h7))) (.cons (.ti_of (SqT.of (e9 _ _ h8))) .nil))
    refine x_neD g1 g2 g3 ?_
    walk_at "x"
    refine x_newT rfl fun q1 J1 m1 f1 k1 _ => ?_
    walk_at "x"
    refine ⟨q1, [], rfl, SqT.of k1, by decide, by decide, fun q2 J2 ks f2 m2 k2 hasc hmem => ?_⟩
    obtain rfl : ks = [0] := asc_ext hasc (by decide) fun x => by
      rw [hmem, Wy_in, show (allD []).map (fun r => ((totD [] r : Nat) : Int)) = [0] from by decide]
    walk_at "x"
    refine x_newL rfl fun q3 J3 m3 f3 k3 _ => ?_
    refine x_eqD (Dp.li (ns := [0]) (SqL.of (f3 _ _ k2))) (Dp.li (SqL.of k3)) (shapedLI _) ?_
    walk_at "x"
    refine x_newT rfl fun q4 J4 m4 f4 k4 _ => ?_
    walk_at "x"
    refine ⟨q4, [], 0, rfl, SqT.of k4, by decide, by decide, fun zs2 J5 f5 r5 q5 m5 => ?_⟩
    have hd0 : due [] 0 = [[]] := by decide
    rw [hd0] at r5
    have f6 : Ex J5 (upd J5 q5 (.lst zs2)) := Ex.new m5
    walk_at "x"
    refine x_newT rfl fun q6 J7 m7 f7 k7 _ => ?_
    walk_at "x"
    refine x_newL rfl fun q8 J9 m9 f9 k9 _ => ?_
    obtain ⟨dd, g1, g2, g3⟩ := rows_eq (K := K) (Q := Q) (H := J9) (a := q5) (b := q8) (xs := zs2) (rr := [[]]) ((f7.trans f9) _ _ upd_same) (r5.mono ((f6.trans f7).trans f9)) k9 (.cons (.ti_of (SqT.of (f9 _ _ k7))) .nil)
    refine x_eqD g1 g2 g3 ?_
    walk_at "x"
    refine x_newT rfl fun q9 J10 m10 f10 k10 _ => ?_
    walk_at "x"
    refine x_rRepT (K := K) (v := .int 10) (k := 6) (SqT.of k10) (by decide) fun q10 J11 m11 f11 k11 => ?_
    walk_at "x"
    refine ⟨q10, List.replicate 6 10, 12282, rfl, SqT.of k11, by decide, by decide, fun J12 f12 => ?_⟩
    rw [Wy_big]
    walk_at "x"
    exact q _
end Xl

/-! the derivations and the end, printed by a program of ours -/
namespace Xl
open PySem PySem.Spec PyProof.Rows L2
def topS (i : Nat) : Stmt := PySem.Challenge.pw_tiednotes_k13_whole_dots_that_cannot_be.main.body.getD i (.Pass ⟨0, 0, 0, 0⟩)
abbrev s_length_of : Stmt := topS 2
theorem sc_length_of : FnScope ["power", "dots"] ["power", "dots"] (defScope s_length_of) := ⟨rfl, rfl, rfl, by decide +kernel, rfl, by decide +kernel, by decide +kernel⟩
abbrev s_totals : Stmt := topS 4
theorem sc_totals : FnScope ["powers", "ways", "power", "longer", "dots", "amount", "count", "total"] ["powers"] (defScope s_totals) := ⟨rfl, rfl, rfl, by decide +kernel, rfl, by decide +kernel, by decide +kernel⟩
abbrev s_possible_totals : Stmt := topS 5
theorem sc_possible_totals : FnScope ["powers"] ["powers"] (defScope s_possible_totals) := ⟨rfl, rfl, rfl, by decide +kernel, rfl, by decide +kernel, by decide +kernel⟩
abbrev s_count_dots : Stmt := topS 6
theorem sc_count_dots : FnScope ["powers", "total"] ["powers", "total"] (defScope s_count_dots) := ⟨rfl, rfl, rfl, by decide +kernel, rfl, by decide +kernel, by decide +kernel⟩
abbrev s_all_dots : Stmt := topS 7
theorem sc_all_dots : GScope ["powers", "total", "rows", "index", "power", "rest", "longer", "row", "dots", "amount", "one"] ["powers", "total"] (defScope s_all_dots) := ⟨rfl, rfl, rfl, by decide +kernel, rfl, by decide +kernel, by decide +kernel⟩
abbrev s_law_cell : Stmt := topS 9
theorem sc_law_cell : FnScope ["script", "index"] ["script", "index"] (defScope s_law_cell) := ⟨rfl, rfl, rfl, by decide +kernel, rfl, by decide +kernel, by decide +kernel⟩
abbrev s_law_digits : Stmt := topS 10
theorem sc_law_digits : FnScope ["script", "index", "count", "base", "primes", "cell", "rest", "digits", "k", "mixed"] ["script", "index", "count", "base"] (defScope s_law_digits) := ⟨rfl, rfl, rfl, by decide +kernel, rfl, by decide +kernel, by decide +kernel⟩
abbrev s_law_power : Stmt := topS 11
theorem sc_law_power : FnScope ["exponent", "found", "turn"] ["exponent"] (defScope s_law_power) := ⟨rfl, rfl, rfl, by decide +kernel, rfl, by decide +kernel, by decide +kernel⟩
abbrev s_law_size : Stmt := topS 12
theorem sc_law_size : FnScope ["power", "points", "found", "exponent"] ["power", "points"] (defScope s_law_size) := ⟨rfl, rfl, rfl, by decide +kernel, rfl, by decide +kernel, by decide +kernel⟩
abbrev s_law_all : Stmt := topS 13
theorem sc_law_all : FnScope ["powers", "rows", "power", "longer", "row", "points"] ["powers"] (defScope s_law_all) := ⟨rfl, rfl, rfl, by decide +kernel, rfl, by decide +kernel, by decide +kernel⟩
abbrev s_law_total : Stmt := topS 14
theorem sc_law_total : FnScope ["powers", "row", "power", "points"] ["powers", "row"] (defScope s_law_total) := ⟨rfl, rfl, rfl, by decide +kernel, rfl, by decide +kernel, by decide +kernel⟩
abbrev s_law : Stmt := topS 15
theorem sc_law : FnScope ["script", "index", "digits", "powers", "ways", "row", "total", "found", "due", "digit"] ["script"] (defScope s_law) := ⟨rfl, rfl, rfl, by decide +kernel, rfl, by decide +kernel, by decide +kernel⟩
structure Tx (K : PySem.W.Frag) (mg : Str → Option Value) : Prop where
  n_range : mg "range" = none
  n_sorted : mg "sorted" = none
  n_enumerate : mg "enumerate" = none
  n_sum : mg "sum" = none
  n_zip : mg "zip" = none
  n_len : mg "len" = none
  n_tuple : mg "tuple" = none
  n_isinstance : mg "isinstance" = none
  n_list : mg "list" = none
  g_POWERS : mg "POWERS" = some (.ref (He.ga K "POWERS"))
  t_POWERS : PowT K
  g_length_of : mg "length_of" = some (.ref (He.ga K "length_of"))
  f_length_of : ∃ fd, FunD K "length_of" "length_of" (defArgs s_length_of) (defBody s_length_of) (defScope s_length_of) [] [] (He.ga K "length_of") fd
  g_totals : mg "totals" = some (.ref (He.ga K "totals"))
  f_totals : ∃ fd, FunD K "totals" "totals" (defArgs s_totals) (defBody s_totals) (defScope s_totals) [] [] (He.ga K "totals") fd
  g_possible_totals : mg "possible_totals" = some (.ref (He.ga K "possible_totals"))
  f_possible_totals : ∃ fd, FunD K "possible_totals" "possible_totals" (defArgs s_possible_totals) (defBody s_possible_totals) (defScope s_possible_totals) [] [] (He.ga K "possible_totals") fd
  g_count_dots : mg "count_dots" = some (.ref (He.ga K "count_dots"))
  f_count_dots : ∃ fd, FunD K "count_dots" "count_dots" (defArgs s_count_dots) (defBody s_count_dots) (defScope s_count_dots) [] [] (He.ga K "count_dots") fd
  g_all_dots : mg "all_dots" = some (.ref (He.ga K "all_dots"))
  f_all_dots : ∃ fd, FunD K "all_dots" "all_dots" (defArgs s_all_dots) (defBody s_all_dots) (defScope s_all_dots) [] [] (He.ga K "all_dots") fd
  g__law_cell : mg "_law_cell" = some (.ref (He.ga K "_law_cell"))
  f__law_cell : ∃ fd, FunD K "_law_cell" "_law_cell" (defArgs s_law_cell) (defBody s_law_cell) (defScope s_law_cell) [] [] (He.ga K "_law_cell") fd
  g__law_digits : mg "_law_digits" = some (.ref (He.ga K "_law_digits"))
  f__law_digits : ∃ fd, FunD K "_law_digits" "_law_digits" (defArgs s_law_digits) (defBody s_law_digits) (defScope s_law_digits) [] [] (He.ga K "_law_digits") fd
  g__law_power : mg "_law_power" = some (.ref (He.ga K "_law_power"))
  f__law_power : ∃ fd, FunD K "_law_power" "_law_power" (defArgs s_law_power) (defBody s_law_power) (defScope s_law_power) [] [] (He.ga K "_law_power") fd
  g__law_size : mg "_law_size" = some (.ref (He.ga K "_law_size"))
  f__law_size : ∃ fd, FunD K "_law_size" "_law_size" (defArgs s_law_size) (defBody s_law_size) (defScope s_law_size) [] [] (He.ga K "_law_size") fd
  g__law_all : mg "_law_all" = some (.ref (He.ga K "_law_all"))
  f__law_all : ∃ fd, FunD K "_law_all" "_law_all" (defArgs s_law_all) (defBody s_law_all) (defScope s_law_all) [] [] (He.ga K "_law_all") fd
  g__law_total : mg "_law_total" = some (.ref (He.ga K "_law_total"))
  f__law_total : ∃ fd, FunD K "_law_total" "_law_total" (defArgs s_law_total) (defBody s_law_total) (defScope s_law_total) [] [] (He.ga K "_law_total") fd
  g_law : mg "law" = some (.ref (He.ga K "law"))
  f_law : ∃ fd, FunD K "law" "law" (defArgs s_law) (defBody s_law) (defScope s_law) [] [] (He.ga K "law") fd
section
variable {P : Program} {w : World} {K : PySem.W.Frag} {mg : Str → Option Value} {base : Heap}
theorem ok_length_of (T : Tx K mg) : Cal P w K mg base "length_of" 1 ["power", "dots"] (sp_length_of K) := by
  obtain ⟨fd, F⟩ := T.f_length_of
  exact ⟨fd, T.g_length_of, F.kp, F.bindsN (fun _ _ _ _ _ _ us hl => match us, hl with | [_, _], _ => rfl), F.ok sc_length_of len_length_of (fun cdv A outer s H vs Q E hr h => ⟨t_length_of K, PSs.nox (pss_one (ps_ret (pe_op op_sub (pe_ix ix_tup (pe_glob (by rfl) T.g_POWERS rfl) (pe_op op_add (pv 0) pe_int) (fun _ _ => rfl)) (pe_ix ix_tup (pe_glob (by rfl) T.g_POWERS rfl) (pe_op op_sub (pv 0) (pv 1)) (fun _ _ => rfl))))), run_length_of (T.t_POWERS) h⟩)⟩
theorem ok_totals (T : Tx K mg) (c_length_of : Cal P w K mg base "length_of" 1 ["power", "dots"] (sp_length_of K)) : Cal P w K mg base "totals" 2 ["powers"] (sp_totals K) := by
  obtain ⟨fd, F⟩ := T.f_totals
  exact ⟨fd, T.g_totals, F.kp, F.bindsN (fun _ _ _ _ _ _ us hl => match us, hl with | [_], _ => rfl), F.ok sc_totals len_totals (fun cdv A outer s H vs Q E hr h => ⟨t_totals K, PSs.nox (pss_cons (ps_set (i := 1) sc_totals.nd rfl (Or.inl rfl) (pe_disp (pps_cons pe_int pe_int pps_nil) (by rfl) (by rfl) (fun z => by cases z) (by decide))) (pss_cons (ps_for PassesOwn.never rfl (pi_tup (pv 0)) (pg_name (i := 2) sc_totals.nd rfl (Or.inl rfl)) (pss_cons (ps_set (i := 3) sc_totals.nd rfl (Or.inl rfl) pe_dnewK) (pss_cons (ps_for PassesOwn.never rfl (pi_range1 (by rfl) T.n_range (pa_cons (pe_op op_add (pv 2) pe_int) pa_nil)) (pg_name (i := 4) sc_totals.nd rfl (Or.inl rfl)) (pss_one (ps_lock (ps_for PassesOwn.never rfl (pi_items (pv 1)) (pg_tup rfl (pgs_cons (pg_name (i := 5) sc_totals.nd rfl (Or.inl rfl)) (pgs_cons (pg_name (i := 6) sc_totals.nd rfl (Or.inl rfl)) pgs_nil))) (pss_cons (ps_set (i := 7) sc_totals.nd rfl (Or.inl rfl) (pe_op op_add (pv 5) (pe_cal c_length_of hr (by rfl) (pa_cons (pv 2) (pa_cons (pv 4) pa_nil))))) (pss_one (ps_dput (hu_of hr) (pv 3) (pv 7) (pe_op op_add (pe_dget2 (hu_of hr) (pv 3) (pv 7) pe_int ⟨by rfl, by rfl, by rfl, by rfl⟩) (pv 6)) rfl))))))) (pss_one (ps_set (i := 1) sc_totals.nd rfl (Or.inl rfl) (pv 3)))))) (pss_one (ps_ret (pv 1))))), run_totals h⟩)⟩
theorem ok_possible_totals (T : Tx K mg) (c_totals : Cal P w K mg base "totals" 2 ["powers"] (sp_totals K)) : Cal P w K mg base "possible_totals" 3 ["powers"] (sp_possible_totals K) := by
  obtain ⟨fd, F⟩ := T.f_possible_totals
  exact ⟨fd, T.g_possible_totals, F.kp, F.bindsN (fun _ _ _ _ _ _ us hl => match us, hl with | [_], _ => rfl), F.ok sc_possible_totals len_possible_totals (fun cdv A outer s H vs Q E hr h => ⟨t_possible_totals K, PSs.nox (pss_one (ps_ret (pe_callB (cr_sortDA rfl) (by rfl) T.n_sorted (by decide +kernel) (pa_cons (pe_cal c_totals hr (by rfl) (pa_cons (pv 0) pa_nil)) pa_nil)))), run_possible_totals h⟩)⟩
theorem ok_count_dots (T : Tx K mg) (c_totals : Cal P w K mg base "totals" 2 ["powers"] (sp_totals K)) : Cal P w K mg base "count_dots" 3 ["powers", "total"] (sp_count_dots K) := by
  obtain ⟨fd, F⟩ := T.f_count_dots
  exact ⟨fd, T.g_count_dots, F.kp, F.bindsN (fun _ _ _ _ _ _ us hl => match us, hl with | [_, _], _ => rfl), F.ok sc_count_dots len_count_dots (fun cdv A outer s H vs Q E hr h => ⟨t_count_dots K, PSs.nox (pss_one (ps_ret (pe_dget2 (hu_of hr) (pe_cal c_totals hr (by rfl) (pa_cons (pv 0) pa_nil)) (pv 1) pe_int ⟨by rfl, by rfl, by rfl, by rfl⟩))), run_count_dots h⟩)⟩
theorem ok_all_dots (T : Tx K mg) (c_totals : Cal P w K mg base "totals" 2 ["powers"] (sp_totals K)) (c_length_of : Cal P w K mg base "length_of" 1 ["power", "dots"] (sp_length_of K)) : CalG P w K mg base "all_dots" 3 ["powers", "total"] (sp_all_dots K) := by
  obtain ⟨fd, F⟩ := T.f_all_dots
  exact ⟨fd, T.g_all_dots, F.kp, F.bindsN (fun _ _ _ _ _ _ us hl => match us, hl with | [_, _], _ => rfl), gen_ok F sc_all_dots len_all_dots (fun cdv A outer s H vs Q E pn hr h => ⟨t_all_dots K, (gss_cons (gs_nox (ps_set (i := 2) sc_all_dots.nd rfl (Or.inl rfl) (pe_lst (pa_cons (pe_tup pa_nil) pa_nil)))) (gss_cons (gs_nox (ps_for PassesOwn.never rfl (pi_enumT (by rfl) T.n_enumerate (pa_cons (pv 0) pa_nil)) (pg_tup rfl (pgs_cons (pg_name (i := 3) sc_all_dots.nd rfl (Or.inl rfl)) (pgs_cons (pg_name (i := 4) sc_all_dots.nd rfl (Or.inl rfl)) pgs_nil))) (pss_cons (ps_par (i := 5) (j := 6) rfl sc_all_dots.nd rfl rfl (by decide) rfl rfl (pa_cons (pe_cal c_totals hr (by rfl) (pa_cons (pe_slice sl_tupA (pv 0) (po_some (pe_op op_add (pv 3) pe_int)) po_none) pa_nil)) (pa_cons (pe_lst pa_nil) pa_nil)) (by rfl)) (pss_cons (ps_for PassesOwn.never rfl (pi_list (pv 2)) (pg_name (i := 7) sc_all_dots.nd rfl (Or.inl rfl)) (pss_cons (ps_set (i := 9) sc_all_dots.nd rfl (Or.inl rfl) (pe_callB (cr_sum rfl) (by rfl) T.n_sum (by decide +kernel) (pa_cons (pe_lc (own := [("one", 10), ("dots", 8)]) rfl sc_all_dots.nd (RZ.pi_zipA (by rfl) T.n_zip (pa_cons (pv 0) (pa_cons (pv 7) pa_nil))) (blkOk_by (own := [("one", 10), ("dots", 8)]) (N := ["powers", "total", "rows", "index", "power", "rest", "longer", "row", "dots", "amount", "one"]) (sc := defScope s_all_dots) (by decide +kernel)) (fun _ _ _ _ _ => (pg_tup rfl (pgs_cons (pg_name (i := 10) sc_all_dots.nd rfl (Or.inl rfl)) (pgs_cons (pg_name (i := 8) sc_all_dots.nd rfl (Or.inl rfl)) pgs_nil)))) (fun _ _ _ _ _ => pts_nil) (fun _ _ _ _ _ => (pe_cal c_length_of (hr.mono (by decide)) (by rfl) (pa_cons (pv 10) (pa_cons (pv 8) pa_nil))))) pa_nil))) (pss_one (ps_for PassesOwn.never rfl (pi_range1 (by rfl) T.n_range (pa_cons (pe_op op_add (pv 4) pe_int) pa_nil)) (pg_name (i := 8) sc_all_dots.nd rfl (Or.inl rfl)) (pss_one (ps_if (pt_cmp (pc_din (hu_of hr) (pe_op op_sub (pe_op op_sub (pv 1) (pv 9)) (pe_cal c_length_of (hr.mono (by decide)) (by rfl) (pa_cons (pv 4) (pa_cons (pv 8) pa_nil)))) (pv 5))) (pss_one (ps_expr (pe_bm PySem.F.plainAttrs_list PySem.F.slot_list_append PySem.F.type_list_append mt_append (pv 6) (pa_cons (pe_op op_catA (pv 7) (pe_tup (pa_cons (pv 8) pa_nil))) pa_nil)))) pss_nil)))))) (pss_one (ps_set (i := 2) sc_all_dots.nd rfl (Or.inl rfl) (pv 6))))))) (gss_cons (gs_for owns_gcx rfl (pi_nox (pi_list (pv 2))) (pg_nox (pg_name (i := 7) sc_all_dots.nd rfl (Or.inl rfl))) (gss_cons (gs_if (PT.nox (pt_cmpR op_eq (pe_callB (cr_sum rfl) (by rfl) T.n_sum (by decide +kernel) (pa_cons (pe_lc (own := [("one", 10), ("dots", 8)]) rfl sc_all_dots.nd (RZ.pi_zipA (by rfl) T.n_zip (pa_cons (pv 0) (pa_cons (pv 7) pa_nil))) (blkOk_by (own := [("one", 10), ("dots", 8)]) (N := ["powers", "total", "rows", "index", "power", "rest", "longer", "row", "dots", "amount", "one"]) (sc := defScope s_all_dots) (by decide +kernel)) (fun _ _ _ _ _ => (pg_tup rfl (pgs_cons (pg_name (i := 10) sc_all_dots.nd rfl (Or.inl rfl)) (pgs_cons (pg_name (i := 8) sc_all_dots.nd rfl (Or.inl rfl)) pgs_nil)))) (fun _ _ _ _ _ => pts_nil) (fun _ _ _ _ _ => (pe_cal c_length_of (hr.mono (by decide)) (by rfl) (pa_cons (pv 10) (pa_cons (pv 8) pa_nil))))) pa_nil)) (pv 1) (nomark _))) (gss_cons (gs_yield (PE.nox (pv 7))) gss_nil) gss_nil) gss_nil)) gss_nil))), run_all_dots h⟩)⟩
theorem ok_law_cell (T : Tx K mg) : Cal P w K mg base "_law_cell" 1 ["script", "index"] (sp_law_cell K) := by
  obtain ⟨fd, F⟩ := T.f__law_cell
  exact ⟨fd, T.g__law_cell, F.kp, F.bindsN (fun _ _ _ _ _ _ us hl => match us, hl with | [_, _], _ => rfl), F.ok sc_law_cell len_law_cell (fun cdv A outer s H vs Q E hr h => ⟨t_law_cell K, PSs.nox (pss_cons (ps_if (pt_cmpR op_lt (pv 1) (pe_callB call_len_seq (by rfl) T.n_len (by decide +kernel) (pa_cons (pv 0) pa_nil)) (nomark _)) (pss_one (ps_ret (pe_ix ix_list (pv 0) (pv 1) (fun _ _ => rfl)))) pss_nil) (pss_cons (ps_if (pt_cmpR op_eq (pe_callB call_len_seq (by rfl) T.n_len (by decide +kernel) (pa_cons (pv 0) pa_nil)) pe_int (nomark _)) (pss_one (ps_ret (pe_op op_add (pe_op op_mul pe_int (pv 1)) pe_int))) pss_nil) (pss_one (ps_ret (pe_op op_add (pe_op op_mod (pe_ix ix_list (pv 0) (pe_op op_mod (pv 1) (pe_callB call_len_seq (by rfl) T.n_len (by decide +kernel) (pa_cons (pv 0) pa_nil))) (fun _ _ => rfl)) pe_int) (pe_op op_mul pe_int (pv 1))))))), run_law_cell h⟩)⟩
theorem ok_law_digits (T : Tx K mg) (c_law_cell : Cal P w K mg base "_law_cell" 1 ["script", "index"] (sp_law_cell K)) : Cal P w K mg base "_law_digits" 2 ["script", "index", "count", "base"] (sp_law_digits K) := by
  obtain ⟨fd, F⟩ := T.f__law_digits
  exact ⟨fd, T.g__law_digits, F.kp, F.bindsN (fun _ _ _ _ _ _ us hl => match us, hl with | [_, _, _, _], _ => rfl), F.ok sc_law_digits len_law_digits (fun cdv A outer s H vs Q E hr h => ⟨t_law_digits K, PSs.nox (pss_cons (ps_set (i := 4) sc_law_digits.nd rfl (Or.inl rfl) (pe_tup (pa_cons pe_int (pa_cons pe_int (pa_cons pe_int (pa_cons pe_int (pa_cons pe_int (pa_cons pe_int (pa_cons pe_int (pa_cons pe_int pa_nil)))))))))) (pss_cons (ps_set (i := 5) sc_law_digits.nd rfl (Or.inl rfl) (pe_cal c_law_cell hr (by rfl) (pa_cons (pv 0) (pa_cons (pv 1) pa_nil)))) (pss_cons (ps_set (i := 6) sc_law_digits.nd rfl (Or.inl rfl) (pe_ifExp (pt_cmpR op_ge (pv 5) (pe_op op_pow pe_int pe_int) (nomark _)) (pv 5) pe_int)) (pss_cons (ps_set (i := 7) sc_law_digits.nd rfl (Or.inl rfl) (pe_lst pa_nil)) (pss_cons (ps_for PassesOwn.never rfl (pi_range1 (by rfl) T.n_range (pa_cons (pv 2) pa_nil)) (pg_name (i := 8) sc_law_digits.nd rfl (Or.inl rfl)) (pss_cons (ps_set (i := 9) sc_law_digits.nd rfl (Or.inl rfl) (pe_op op_mul (pe_op op_mod (pv 5) (pe_ix ix_tup (pv 4) (pe_op op_mod (pv 8) pe_int) (fun _ _ => rfl))) (pe_op op_add pe_int (pe_op op_mul (pe_op op_mul pe_int (pv 8)) (pv 8))))) (pss_cons (ps_set (i := 9) sc_law_digits.nd rfl (Or.inl rfl) (pe_op op_add (pe_op op_add (pv 9) (pe_op op_mul (pe_op op_mul pe_int (pe_op op_add (pv 8) pe_int)) (pe_op op_add (pv 8) pe_int))) (pe_op op_mul pe_int (pv 1)))) (pss_cons (ps_set (i := 9) sc_law_digits.nd rfl (Or.inl rfl) (pe_op op_mod (pv 9) (pe_ix ix_tup (pv 4) (pe_op op_mod (pe_op op_add (pe_op op_mul pe_int (pv 8)) (pv 1)) pe_int) (fun _ _ => rfl)))) (pss_cons (ps_set (i := 9) sc_law_digits.nd rfl (Or.inl rfl) (pe_op op_mod (pe_op op_mul (pe_op op_mul (pv 9) (pv 9)) (pv 9)) (pe_ix ix_tup (pv 4) (pe_op op_mod (pe_op op_add (pv 8) pe_int) pe_int) (fun _ _ => rfl)))) (pss_cons (ps_if (pt_cmpR op_gt (pv 6) pe_int (nomark _)) (pss_one (ps_set (i := 9) sc_law_digits.nd rfl (Or.inl rfl) (pv 6))) pss_nil) (pss_cons (ps_expr (pe_bm PySem.F.plainAttrs_list PySem.F.slot_list_append PySem.F.type_list_append mt_append (pv 7) (pa_cons (pe_op op_mod (pv 9) (pv 3)) pa_nil))) (pss_one (ps_set (i := 6) sc_law_digits.nd rfl (Or.inl rfl) (pe_op op_fdiv (pv 6) (pv 3))))))))))) (pss_one (ps_ret (pv 7)))))))), run_law_digits h⟩)⟩
theorem ok_law_power (T : Tx K mg) : Cal P w K mg base "_law_power" 1 ["exponent"] (sp_law_power K) := by
  obtain ⟨fd, F⟩ := T.f__law_power
  exact ⟨fd, T.g__law_power, F.kp, F.bindsN (fun _ _ _ _ _ _ us hl => match us, hl with | [_], _ => rfl), F.ok sc_law_power len_law_power (fun cdv A outer s H vs Q E hr h => ⟨t_law_power K, PSs.nox (pss_cons (ps_set (i := 1) sc_law_power.nd rfl (Or.inl rfl) pe_int) (pss_cons (ps_for PassesOwn.never rfl (pi_range1 (by rfl) T.n_range (pa_cons (pv 0) pa_nil)) (pg_name (i := 2) sc_law_power.nd rfl (Or.inl rfl)) (pss_one (ps_set (i := 1) sc_law_power.nd rfl (Or.inl rfl) (pe_op op_mul pe_int (pv 1))))) (pss_one (ps_ret (pv 1))))), run_law_power h⟩)⟩
theorem ok_law_size (T : Tx K mg) (c_law_power : Cal P w K mg base "_law_power" 1 ["exponent"] (sp_law_power K)) : Cal P w K mg base "_law_size" 2 ["power", "points"] (sp_law_size K) := by
  obtain ⟨fd, F⟩ := T.f__law_size
  exact ⟨fd, T.g__law_size, F.kp, F.bindsN (fun _ _ _ _ _ _ us hl => match us, hl with | [_, _], _ => rfl), F.ok sc_law_size len_law_size (fun cdv A outer s H vs Q E hr h => ⟨t_law_size K, PSs.nox (pss_cons (ps_set (i := 2) sc_law_size.nd rfl (Or.inl rfl) pe_int) (pss_cons (ps_for PassesOwn.never rfl (pi_range2 (by rfl) T.n_range (pa_cons (pe_op op_sub (pv 0) (pv 1)) (pa_cons (pe_op op_add (pv 0) pe_int) pa_nil))) (pg_name (i := 3) sc_law_size.nd rfl (Or.inl rfl)) (pss_one (ps_set (i := 2) sc_law_size.nd rfl (Or.inl rfl) (pe_op op_add (pv 2) (pe_cal c_law_power hr (by rfl) (pa_cons (pv 3) pa_nil)))))) (pss_one (ps_ret (pv 2))))), run_law_size h⟩)⟩
theorem ok_law_all (T : Tx K mg) : Cal P w K mg base "_law_all" 1 ["powers"] (sp_law_all K) := by
  obtain ⟨fd, F⟩ := T.f__law_all
  exact ⟨fd, T.g__law_all, F.kp, F.bindsN (fun _ _ _ _ _ _ us hl => match us, hl with | [_], _ => rfl), F.ok sc_law_all len_law_all (fun cdv A outer s H vs Q E hr h => ⟨t_law_all K, PSs.nox (pss_cons (ps_set (i := 1) sc_law_all.nd rfl (Or.inl rfl) (pe_lst (pa_cons (pe_tup pa_nil) pa_nil))) (pss_cons (ps_for PassesOwn.never rfl (pi_tup (pv 0)) (pg_name (i := 2) sc_law_all.nd rfl (Or.inl rfl)) (pss_cons (ps_set (i := 3) sc_law_all.nd rfl (Or.inl rfl) (pe_lst pa_nil)) (pss_cons (ps_for PassesOwn.never rfl (pi_list (pv 1)) (pg_name (i := 4) sc_law_all.nd rfl (Or.inr rfl)) (pss_one (ps_set (i := 3) sc_law_all.nd rfl (Or.inl rfl) (pe_op op_cat (pv 3) (pe_lc (own := [("points", 5)]) rfl sc_law_all.nd (pi_range1 (by rfl) T.n_range (pa_cons (pe_op op_add (pv 2) pe_int) pa_nil)) (blkOk_by (own := [("points", 5)]) (N := ["powers", "rows", "power", "longer", "row", "points"]) (sc := defScope s_law_all) (by decide +kernel)) (fun _ _ _ _ _ => (pg_name (i := 5) sc_law_all.nd rfl (Or.inl rfl))) (fun _ _ _ _ _ => pts_nil) (fun _ _ _ _ _ => (pe_op op_catA (pv 4) (pe_tup (pa_cons (pv 5) pa_nil))))))))) (pss_one (ps_set (i := 1) sc_law_all.nd rfl (Or.inl rfl) (pv 3)))))) (pss_one (ps_ret (pv 1))))), run_law_all h⟩)⟩
theorem ok_law_total (T : Tx K mg) (c_law_size : Cal P w K mg base "_law_size" 2 ["power", "points"] (sp_law_size K)) : Cal P w K mg base "_law_total" 3 ["powers", "row"] (sp_law_total K) := by
  obtain ⟨fd, F⟩ := T.f__law_total
  exact ⟨fd, T.g__law_total, F.kp, F.bindsN (fun _ _ _ _ _ _ us hl => match us, hl with | [_, _], _ => rfl), F.ok sc_law_total len_law_total (fun cdv A outer s H vs Q E hr h => ⟨t_law_total K, PSs.nox (pss_one (ps_ret (pe_callB (cr_sum rfl) (by rfl) T.n_sum (by decide +kernel) (pa_cons (pe_lc (own := [("power", 2), ("points", 3)]) rfl sc_law_total.nd (RZ.pi_zipA (by rfl) T.n_zip (pa_cons (pv 0) (pa_cons (pv 1) pa_nil))) (blkOk_by (own := [("power", 2), ("points", 3)]) (N := ["powers", "row", "power", "points"]) (sc := defScope s_law_total) (by decide +kernel)) (fun _ _ _ _ _ => (pg_tup rfl (pgs_cons (pg_name (i := 2) sc_law_total.nd rfl (Or.inl rfl)) (pgs_cons (pg_name (i := 3) sc_law_total.nd rfl (Or.inl rfl)) pgs_nil)))) (fun _ _ _ _ _ => pts_nil) (fun _ _ _ _ _ => (pe_cal c_law_size hr (by rfl) (pa_cons (pv 2) (pa_cons (pv 3) pa_nil))))) pa_nil)))), run_law_total h⟩)⟩
theorem fn_law (T : Tx K mg) (c_law_digits : Cal P w K mg base "_law_digits" 2 ["script", "index", "count", "base"] (sp_law_digits K)) (c_law_all : Cal P w K mg base "_law_all" 1 ["powers"] (sp_law_all K)) (c_law_total : Cal P w K mg base "_law_total" 3 ["powers", "row"] (sp_law_total K)) (c_possible_totals : Cal P w K mg base "possible_totals" 3 ["powers"] (sp_possible_totals K)) (c_count_dots : Cal P w K mg base "count_dots" 3 ["powers", "total"] (sp_count_dots K)) (c_all_dots : CalG P w K mg base "all_dots" 3 ["powers", "total"] (sp_all_dots K)) {fd : FuncData} (F : FunD K "law" "law" (defArgs s_law) (defBody s_law) (defScope s_law) [] [] (He.ga K "law") fd) : FnOk P w K mg base CX0 7 (He.ga K "law") fd ["script"] (sp_law K) :=
  F.ok sc_law len_law (fun cdv A outer s H vs Q E hr h => ⟨t_law K, PSs.nox (pss_cons (ps_for PassesOwn.never rfl (pi_range1 (by rfl) T.n_range (pa_cons pe_int pa_nil)) (pg_name (i := 1) sc_law.nd rfl (Or.inl rfl)) (pss_cons (ps_set (i := 2) sc_law.nd rfl (Or.inr rfl) (pe_cal c_law_digits (hr.mono (by decide)) (by rfl) (pa_cons (pv 0) (pa_cons (pv 1) (pa_cons pe_int (pa_cons pe_int pa_nil)))))) (pss_cons (ps_set (i := 3) sc_law.nd rfl (Or.inl rfl) (pe_callTy call_tuple_of (by rfl) T.n_tuple (by decide +kernel) (pa_cons (pe_lc (own := [("digit", 9)]) rfl sc_law.nd (pi_list (pe_slice sl_list (pv 2) (po_some pe_int) (po_some (pe_op op_add pe_int (pe_op op_mod (pe_ix ix_list (pv 2) pe_int (fun _ _ => rfl)) pe_int))))) (blkOk_by (own := [("digit", 9)]) (N := ["script", "index", "digits", "powers", "ways", "row", "total", "found", "due", "digit"]) (sc := defScope s_law) (by decide +kernel)) (fun _ _ _ _ _ => (pg_name (i := 9) sc_law.nd rfl (Or.inl rfl))) (fun _ _ _ _ _ => pts_nil) (fun _ _ _ _ _ => (pe_op op_mod (pv 9) (pe_ix ix_list (pe_lst (pa_cons pe_int (pa_cons pe_int pa_nil))) (pe_op op_mod (pe_ix ix_list (pv 2) pe_int (fun _ _ => rfl)) pe_int) (fun _ _ => rfl))))) pa_nil))) (pss_cons (ps_set (i := 4) sc_law.nd rfl (Or.inl rfl) pe_dnewK) (pss_cons (ps_for PassesOwn.never rfl (pi_list (pe_cal c_law_all (hr.mono (by decide)) (by rfl) (pa_cons (pv 3) pa_nil))) (pg_name (i := 5) sc_law.nd rfl (Or.inl rfl)) (pss_cons (ps_set (i := 6) sc_law.nd rfl (Or.inl rfl) (pe_cal c_law_total (hr.mono (by decide)) (by rfl) (pa_cons (pv 3) (pa_cons (pv 5) pa_nil)))) (pss_one (ps_dput (hu_of hr) (pv 4) (pv 6) (pe_op op_cat (pe_dget2 (hu_of hr) (pv 4) (pv 6) (pe_lst pa_nil) ⟨by rfl, by rfl, by rfl, by rfl⟩) (pe_lst (pa_cons (pv 5) pa_nil))) rfl)))) (pss_cons (ps_set (i := 7) sc_law.nd rfl (Or.inl rfl) (pe_cal c_possible_totals (hr.mono (by decide)) (by rfl) (pa_cons (pv 3) pa_nil))) (pss_cons (ps_if (PW.pt (pw_or (pt_cmpR (op_neD hr.units) (pv 7) (pe_callB (cr_sortDA rfl) (by rfl) T.n_sorted (by decide +kernel) (pa_cons (pv 4) pa_nil)) (nomark _)) (pw_or1 (pt_not (pt_val (pe_callB call_isi (by rfl) T.n_isinstance (by decide +kernel) (pa_cons (pv 7) (pa_cons (pe_bltn (v := .ty "list") (by rfl) T.n_list (by decide +kernel) rfl) pa_nil)))))))) (pss_one (ps_ret pe_bl)) pss_nil) (pss_cons (ps_for PassesOwn.never rfl (pi_list (pe_op op_cat (pe_op op_cat (pe_slice sl_list (pe_callB (cr_sortDA rfl) (by rfl) T.n_sorted (by decide +kernel) (pa_cons (pv 4) pa_nil)) po_none (po_some pe_int)) (pe_slice sl_list (pe_callB (cr_sortDA rfl) (by rfl) T.n_sorted (by decide +kernel) (pa_cons (pv 4) pa_nil)) (po_some (pe_un un_neg pe_int)) po_none)) (pe_lst (pa_cons pe_int (pa_cons pe_int (pa_cons (pe_op op_mod (pe_ix ix_list (pv 2) pe_int (fun _ _ => rfl)) pe_int) (pa_cons (pe_op op_mod (pe_ix ix_list (pv 2) pe_int (fun _ _ => rfl)) pe_int) pa_nil))))))) (pg_name (i := 6) sc_law.nd rfl (Or.inl rfl)) (pss_cons (ps_set (i := 8) sc_law.nd rfl (Or.inl rfl) (pe_dget2 (hu_of hr) (pv 4) (pv 6) (pe_lst pa_nil) ⟨by rfl, by rfl, by rfl, by rfl⟩)) (pss_cons (ps_if (PW.pt (pw_or (pt_cmpR op_ne (pe_cal c_count_dots (hr.mono (by decide)) (by rfl) (pa_cons (pv 3) (pa_cons (pv 6) pa_nil))) (pe_callB call_len_seq (by rfl) T.n_len (by decide +kernel) (pa_cons (pv 8) pa_nil)) (nomark _)) (pw_or1 (pt_cmpR (op_neD hr.units) (pe_lg (pgen_cal c_all_dots (hr.mono (by decide)) (by rfl) (pa_cons (pv 3) (pa_cons (pv 6) pa_nil))) hr (by rfl) T.n_list (he := by rfl)) (pv 8) (nomark _))))) (pss_one (ps_ret pe_bl)) pss_nil) (pss_one (ps_if (pt_cmpR op_ne (pe_cal c_count_dots (hr.mono (by decide)) (by rfl) (pa_cons (pe_revT (pv 3)) (pa_cons (pv 6) pa_nil))) (pe_callB call_len_seq (by rfl) T.n_len (by decide +kernel) (pa_cons (pv 8) pa_nil)) (nomark _)) (pss_one (ps_ret pe_bl)) pss_nil))))) (pss_cons (ps_expr (pe_bm PySem.F.plainAttrs_list PySem.F.slot_list_append PySem.F.type_list_append mt_append (pv 7) (pa_cons pe_non pa_nil))) (pss_one (ps_if (PW.pt (pw_or (pt_cmpR (op_neD hr.units) (pe_cal c_possible_totals (hr.mono (by decide)) (by rfl) (pa_cons (pv 3) pa_nil)) (pe_slice sl_list (pv 7) po_none (po_some (pe_un un_neg pe_int))) (nomark _)) (pw_or1 (pt_cmpR (op_neD hr.units) (pe_cal c_possible_totals (hr.mono (by decide)) (by rfl) (pa_cons (pe_revT (pv 3)) pa_nil)) (pe_slice sl_list (pv 7) po_none (po_some (pe_un un_neg pe_int))) (nomark _))))) (pss_one (ps_ret pe_bl)) pss_nil))))))))))) (pss_cons (ps_if (PW.pt (pw_or (pt_cmpR (op_neD hr.units) (pe_cal c_possible_totals (hr.mono (by decide)) (by rfl) (pa_cons (pe_tup (pa_cons pe_int (pa_cons pe_int pa_nil))) pa_nil)) (pe_lst (pa_cons pe_int (pa_cons pe_int (pa_cons pe_int pa_nil)))) (nomark _)) (pw_or1 (pt_cmpR (op_neD hr.units) (pe_lg (pgen_cal c_all_dots (hr.mono (by decide)) (by rfl) (pa_cons (pe_tup (pa_cons pe_int (pa_cons pe_int pa_nil))) (pa_cons pe_int pa_nil))) hr (by rfl) T.n_list (he := by rfl)) (pe_lst (pa_cons (pe_tup (pa_cons pe_int (pa_cons pe_int pa_nil))) (pa_cons (pe_tup (pa_cons pe_int (pa_cons pe_int pa_nil))) pa_nil))) (nomark _))))) (pss_one (ps_ret pe_bl)) pss_nil) (pss_one (ps_ret (pe_and (pe_cmpR (op_eqD hr.units) (pe_cal c_possible_totals (hr.mono (by decide)) (by rfl) (pa_cons (pe_tup pa_nil) pa_nil)) (pe_lst (pa_cons pe_int pa_nil)) (nomark _)) (pe_and (pe_cmpR (op_eqD hr.units) (pe_lg (pgen_cal c_all_dots (hr.mono (by decide)) (by rfl) (pa_cons (pe_tup pa_nil) (pa_cons pe_int pa_nil))) hr (by rfl) T.n_list (he := by rfl)) (pe_lst (pa_cons (pe_tup pa_nil) pa_nil)) (nomark _)) (pe_one (pe_cmpR op_eq (pe_cal c_count_dots (hr.mono (by decide)) (by rfl) (pa_cons (pe_op op_repT (pe_tup (pa_cons pe_int pa_nil)) pe_int) (pa_cons pe_int pa_nil))) pe_int (nomark _))))))))), run_law h⟩)
theorem ok_all (T : Tx K mg) {fd : FuncData} (F : FunD K "law" "law" (defArgs s_law) (defBody s_law) (defScope s_law) [] [] (He.ga K "law") fd) : FnOk P w K mg base CX0 7 (He.ga K "law") fd ["script"] (sp_law K) := by
  have c_law_cell : Cal P w K mg base "_law_cell" 1 ["script", "index"] (sp_law_cell K) := ok_law_cell T
  have c_law_digits : Cal P w K mg base "_law_digits" 2 ["script", "index", "count", "base"] (sp_law_digits K) := ok_law_digits T c_law_cell
  have c_law_all : Cal P w K mg base "_law_all" 1 ["powers"] (sp_law_all K) := ok_law_all T
  have c_law_power : Cal P w K mg base "_law_power" 1 ["exponent"] (sp_law_power K) := ok_law_power T
  have c_law_size : Cal P w K mg base "_law_size" 2 ["power", "points"] (sp_law_size K) := ok_law_size T c_law_power
  have c_law_total : Cal P w K mg base "_law_total" 3 ["powers", "row"] (sp_law_total K) := ok_law_total T c_law_size
  have c_length_of : Cal P w K mg base "length_of" 1 ["power", "dots"] (sp_length_of K) := ok_length_of T
  have c_totals : Cal P w K mg base "totals" 2 ["powers"] (sp_totals K) := ok_totals T c_length_of
  have c_possible_totals : Cal P w K mg base "possible_totals" 3 ["powers"] (sp_possible_totals K) := ok_possible_totals T c_totals
  have c_count_dots : Cal P w K mg base "count_dots" 3 ["powers", "total"] (sp_count_dots K) := ok_count_dots T c_totals
  have c_all_dots : CalG P w K mg base "all_dots" 3 ["powers", "total"] (sp_all_dots K) := ok_all_dots T c_totals c_length_of
  exact fn_law T c_law_digits c_law_all c_law_total c_possible_totals c_count_dots c_all_dots F
end
def fa : List He.Fa := [.free "range", .free "sorted", .free "enumerate", .free "sum", .free "zip", .free "len", .free "tuple", .free "isinstance", .free "list", .glo "POWERS", .glo "length_of", .glo "totals", .glo "possible_totals", .glo "count_dots", .glo "all_dots", .glo "_law_cell", .glo "_law_digits", .glo "_law_power", .glo "_law_size", .glo "_law_all", .glo "_law_total", .glo "law"]
def fn : List He.DefD := [⟨("length_of", none), "length_of", "length_of", defArgs s_length_of, defBody s_length_of, defScope s_length_of, [], []⟩,
  ⟨("totals", none), "totals", "totals", defArgs s_totals, defBody s_totals, defScope s_totals, [], []⟩,
  ⟨("possible_totals", none), "possible_totals", "possible_totals", defArgs s_possible_totals, defBody s_possible_totals, defScope s_possible_totals, [], []⟩,
  ⟨("count_dots", none), "count_dots", "count_dots", defArgs s_count_dots, defBody s_count_dots, defScope s_count_dots, [], []⟩,
  ⟨("all_dots", none), "all_dots", "all_dots", defArgs s_all_dots, defBody s_all_dots, defScope s_all_dots, [], []⟩,
  ⟨("_law_cell", none), "_law_cell", "_law_cell", defArgs s_law_cell, defBody s_law_cell, defScope s_law_cell, [], []⟩,
  ⟨("_law_digits", none), "_law_digits", "_law_digits", defArgs s_law_digits, defBody s_law_digits, defScope s_law_digits, [], []⟩,
  ⟨("_law_power", none), "_law_power", "_law_power", defArgs s_law_power, defBody s_law_power, defScope s_law_power, [], []⟩,
  ⟨("_law_size", none), "_law_size", "_law_size", defArgs s_law_size, defBody s_law_size, defScope s_law_size, [], []⟩,
  ⟨("_law_all", none), "_law_all", "_law_all", defArgs s_law_all, defBody s_law_all, defScope s_law_all, [], []⟩,
  ⟨("_law_total", none), "_law_total", "_law_total", defArgs s_law_total, defBody s_law_total, defScope s_law_total, [], []⟩,
  ⟨("law", none), "law", "law", defArgs s_law, defBody s_law, defScope s_law, [], []⟩]
def ex (K : PySem.W.Frag) : Bool := He.tupB K "POWERS" [.int 1, .int 2, .int 4, .int 8, .int 16, .int 32, .int 64, .int 128, .int 256, .int 512, .int 1024, .int 2048]
abbrev R : PySem.W.OpenRow := PySem.W.OpenLaw.row PySem.Challenge.rw_tiednotes_k13_whole_dots_that_cannot_be
abbrev hk : PySem.W.Hook := He.hookX 4 fa fn [] [] ex
def ob (s : PySem.W.SharedT) : He.AlX := He.obsX 4 fa fn [] [] ex (HandSHeadRun.getT s)
theorem ob_eq (s : PySem.W.SharedT) : ob s = hk.obs s.abs := He.obsX_eq (HandSHeadRun.getT_eq s)
def names : List PySem.Str := ["POWERS", "length_of", "totals", "possible_totals", "count_dots", "all_dots", "_law_cell", "_law_digits", "_law_power", "_law_size", "_law_all", "_law_total"]
theorem run (w : World) : HandSHeadRun.RunEq R (PySem.W.view R.prog [15]) hk ob 8000 names w := by
  intro os
  kernel_rfl
theorem tx_of {K : PySem.W.Frag} {w : World} {h : Heap} {mg : Str → Option Value} (X : K.In h) (G : h.Ns mainGlobals mg) (c : He.SaysX fa fn [] [] ex w h K) : Tx K mg := by
  have hx : ex K = true := c.more
  exact ⟨He.free_ok X G (c.t.d.fact 0 (f := .free "range") rfl),
    He.free_ok X G (c.t.d.fact 1 (f := .free "sorted") rfl),
    He.free_ok X G (c.t.d.fact 2 (f := .free "enumerate") rfl),
    He.free_ok X G (c.t.d.fact 3 (f := .free "sum") rfl),
    He.free_ok X G (c.t.d.fact 4 (f := .free "zip") rfl),
    He.free_ok X G (c.t.d.fact 5 (f := .free "len") rfl),
    He.free_ok X G (c.t.d.fact 6 (f := .free "tuple") rfl),
    He.free_ok X G (c.t.d.fact 7 (f := .free "isinstance") rfl),
    He.free_ok X G (c.t.d.fact 8 (f := .free "list") rfl),
    He.glo_ok X G (c.t.d.fact 9 (f := .glo "POWERS") rfl),
    fun H => He.tupB_ok (vs := [.int 1, .int 2, .int 4, .int 8, .int 16, .int 32, .int 64, .int 128, .int 256, .int 512, .int 1024, .int 2048]) hx H,
    He.glo_ok X G (c.t.d.fact 10 (f := .glo "length_of") rfl),
    c.t.d.def_ 0 (d := ⟨("length_of", none), "length_of", "length_of", defArgs s_length_of, defBody s_length_of, defScope s_length_of, [], []⟩) rfl,
    He.glo_ok X G (c.t.d.fact 11 (f := .glo "totals") rfl),
    c.t.d.def_ 1 (d := ⟨("totals", none), "totals", "totals", defArgs s_totals, defBody s_totals, defScope s_totals, [], []⟩) rfl,
    He.glo_ok X G (c.t.d.fact 12 (f := .glo "possible_totals") rfl),
    c.t.d.def_ 2 (d := ⟨("possible_totals", none), "possible_totals", "possible_totals", defArgs s_possible_totals, defBody s_possible_totals, defScope s_possible_totals, [], []⟩) rfl,
    He.glo_ok X G (c.t.d.fact 13 (f := .glo "count_dots") rfl),
    c.t.d.def_ 3 (d := ⟨("count_dots", none), "count_dots", "count_dots", defArgs s_count_dots, defBody s_count_dots, defScope s_count_dots, [], []⟩) rfl,
    He.glo_ok X G (c.t.d.fact 14 (f := .glo "all_dots") rfl),
    c.t.d.def_ 4 (d := ⟨("all_dots", none), "all_dots", "all_dots", defArgs s_all_dots, defBody s_all_dots, defScope s_all_dots, [], []⟩) rfl,
    He.glo_ok X G (c.t.d.fact 15 (f := .glo "_law_cell") rfl),
    c.t.d.def_ 5 (d := ⟨("_law_cell", none), "_law_cell", "_law_cell", defArgs s_law_cell, defBody s_law_cell, defScope s_law_cell, [], []⟩) rfl,
    He.glo_ok X G (c.t.d.fact 16 (f := .glo "_law_digits") rfl),
    c.t.d.def_ 6 (d := ⟨("_law_digits", none), "_law_digits", "_law_digits", defArgs s_law_digits, defBody s_law_digits, defScope s_law_digits, [], []⟩) rfl,
    He.glo_ok X G (c.t.d.fact 17 (f := .glo "_law_power") rfl),
    c.t.d.def_ 7 (d := ⟨("_law_power", none), "_law_power", "_law_power", defArgs s_law_power, defBody s_law_power, defScope s_law_power, [], []⟩) rfl,
    He.glo_ok X G (c.t.d.fact 18 (f := .glo "_law_size") rfl),
    c.t.d.def_ 8 (d := ⟨("_law_size", none), "_law_size", "_law_size", defArgs s_law_size, defBody s_law_size, defScope s_law_size, [], []⟩) rfl,
    He.glo_ok X G (c.t.d.fact 19 (f := .glo "_law_all") rfl),
    c.t.d.def_ 9 (d := ⟨("_law_all", none), "_law_all", "_law_all", defArgs s_law_all, defBody s_law_all, defScope s_law_all, [], []⟩) rfl,
    He.glo_ok X G (c.t.d.fact 20 (f := .glo "_law_total") rfl),
    c.t.d.def_ 10 (d := ⟨("_law_total", none), "_law_total", "_law_total", defArgs s_law_total, defBody s_law_total, defScope s_law_total, [], []⟩) rfl,
    He.glo_ok X G (c.t.d.fact 21 (f := .glo "law") rfl),
    c.t.d.def_ 11 (d := ⟨("law", none), "law", "law", defArgs s_law, defBody s_law, defScope s_law, [], []⟩) rfl⟩
theorem facts {P : Program} {w : World} {K : PySem.W.Frag} {h : Heap} {mg : Str → Option Value} {f : Addr} (X : K.In h) (G : h.Ns mainGlobals mg) (hfa : mg ("law" : Str) = some (.ref f)) (c : He.SaysX fa fn [] [] ex w h K) :
    ∃ fd : FuncData, (∀ (s : Shared) (v : Value), BindsTo s fd ⟨[v], []⟩ [("script", v)]) ∧ ∀ base : Heap, K.In base → base.Ns mainGlobals mg → FnOk P w K mg base CX0 7 f fd ["script"] (sp_law K) := by
  have T := tx_of X G c
  obtain ⟨fd, F⟩ := T.f_law
  have e := hfa.symm.trans T.g_law
  cases e
  have b := FunD.bindsA (ps := ["script"]) F fun _ _ _ _ _ _ us hl => match us, hl with | [_], _ => rfl
  exact ⟨fd, fun s v => b s [v] rfl, fun base _ _ => ok_all T F⟩
end Xl
open PySem PySem.W PySem.Calls PyProof.Rows
theorem PySem.Challenge.cw_tiednotes_k13_whole_dots_that_cannot_be_holds : PySem.Challenge.rw_tiednotes_k13_whole_dots_that_cannot_be.Holds := by
  w_on; o_law
  refine HandSHeadRun.head_any (r := OpenLaw.row PySem.Challenge.rw_tiednotes_k13_whole_dots_that_cannot_be) (q := view (OpenLaw.row PySem.Challenge.rw_tiednotes_k13_whole_dots_that_cannot_be).prog [15]) (H := Xl.hk) (ob := Xl.ob) (M := 8000) (loose := Xl.names) (d := HandSHeadRun.topDef (OpenLaw.row PySem.Challenge.rw_tiednotes_k13_whole_dots_that_cannot_be).prog 15) (kwd := []) Xl.ob_eq
    (by kernel_rfl) (fun s => by kernel_rfl) Xl.run (by kernel_rfl) (by kernel_rfl) (by kernel_rfl) (by rfl) (by first | assumption | decide +kernel) (by decide +kernel) ⟨rfl, rfl, rfl, rfl, rfl, by decide +kernel⟩ ?hw ?hc
  case hw => w_witness2
  case hc =>
    refine L2.walk_ofE (l := PySem.Challenge.rw_tiednotes_k13_whole_dots_that_cannot_be) (n := 63) (k := 7) (x := "script") (CX := L2.CX0) rfl (by decide) (by kernel_rfl) ⟨rfl, by decide, by decide⟩ ?F (fun _ _ _ _ z => z)
    intro w mg fa h Y G hmg0
    obtain ⟨K, KX, c⟩ := Y
    have hmg : mg ("law" : PySem.Str) = some (.ref fa) := by
      have e : (HandSHeadRun.topDef (OpenLaw.row PySem.Challenge.rw_tiednotes_k13_whole_dots_that_cannot_be).prog 15).name = ("law" : PySem.Str) := by kernel_rfl
      rw [← e]
      exact hmg0
    obtain ⟨fd, hb, hF⟩ := Xl.facts (P := (PySem.Challenge.rw_tiednotes_k13_whole_dots_that_cannot_be).prog) (w := w) KX G hmg c
    exact ⟨K, fd, Xl.sp_law K, KX, hb, fun H a ns hl _ hS => ⟨a, ns, rfl, hS, hl, fun _ => rfl⟩, hF⟩
#print axioms PySem.Challenge.cw_tiednotes_k13_whole_dots_that_cannot_be_holds

